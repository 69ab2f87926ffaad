/- The pool's machine, sixth part: communications. -/
import Derived.Test.YtngoijkcbmchdaaGreatDoorMe
set_option linter.unusedVariables false
set_option linter.unusedSimpArgs false
namespace Go.Tx
open Go.Conc Go.ConcN
open Go.ConcR (KK wgBlock WgAt stA smA rd wr mk again_blocked g_of_ofEvents)
variable [Old]

/-- Operations that touch nothing and are no word of the library's. -/
def MuteOps (n : Nat) (u : Trace) : Prop := ∀ op ∈ u, op.g < n ∧ op.act.touch? = none ∧ ∀ m, op.act ≠ .mark m
omit [Old] in
theorem MuteOps.still {n : Nat} {u : Trace} (h : MuteOps n u) (t : Trace) (g : Nat) : Deaf (t ++ u) g = Deaf t g := Deaf_still t g u fun op hop => ⟨(h op hop).2.2 _, (h op hop).2.2 _⟩
omit [Old] in
theorem relBy_mute {a : Addr} {t u : Trace} {k r n : Nat} (h : RelBy a t k r) (hu : MuteOps n u) : RelBy a (t ++ u) k r := by
  refine h.app fun i hi hg hc => ?_
  obtain ⟨x, hx, _⟩ := hc
  rcases touch_app (show touchAt (t ++ u) i = some x from hx) with ⟨hlt, _⟩ | ⟨op, hop, _, hx'⟩
  · omega
  · rw [(hu op hop).2.1] at hx'; cases hx'

section
variable {P : Program} {ph : Ph} {B' : Nat} {Z : Goroutine → World → Prop} {dead : Nat → Prop} {ws : Nat → World} {Bs : Nat → Nat} {k0 : Nat} {gs : Array Goroutine} {W W' : World} {sl : Option (Nat × Nat)} {t u : Trace}
  {E : Nat → Nat × Nat} {a b c bl : Nat} {S : Nat → Prop} {cs : Array Value} {st sm : Int} {ρ ρo : Rk} {L : List Wm}

omit [Old] in
theorem stage2 {c : Nat} (h : c ≤ 2) : stageOf c = 7 := if_pos h
omit [Old] in
theorem mode_low {j x : Nat} {tag : CTag} {e : Nat × Nat} (hE : (E x).1 ≤ 2) (he : e.1 ≤ 2) (h : ConcN.Mode j (wds E) tag st sm) : ConcN.Mode j (wds (upd E x e)) tag st sm := by
  refine h.congr fun y _ => ?_
  by_cases ey : y = x
  · subst ey; simp only [wds, upd_same]; rw [stage2 hE, stage2 he]
  · simp only [wds, upd_ne _ _ ey]

/-- A worker alone turns, by a communication. -/
theorem PI.workComm (h : PI P ph B' Z dead ws Bs k0 gs W t E a b c bl S cs st sm ρ L) {x : Nat} (hx : x < jOf ph.n a b) {g' : Goroutine} {w' : World} {e' : Nat × Nat} {m m' : Wm}
    (hrun : runT P (crowd gs W sl) (k0 + x) = (.next (crowd (gs.setIfInBounds (k0 + x) g') W sl), u)) (hu : MuteOps gs.size u)
    (hG : Grp (upd ws (k0 + x) w') Bs k0 gs.size W t (deadOf ph dead)) (hob : Hid (upd ws (k0 + x) w') gs.size ph.ob) (hE : (E x).1 ≤ 2) (he : e'.1 ≤ 2) (hopn : clOf a = false → e'.1 ≤ 1)
    (hws : WSt P ph (Bs (k0 + x)) (clOf a) (bl == 1) (Deaf t (k0 + x)) e' m' g' w' W) (hj : Jobs ph (jOf ph.n a b) (sentOf ph.N a c) (upd E x e') S cs)
    (hm : L[k0 + x - 1]? = some m) (hlt : Wm.lt m' m ∨ (m' = m ∧ runs (gs.setIfInBounds (k0 + x) g') < runs gs)) :
    Res P gs W sl (k0 + x) t ((ρo, (0, ρ)), (L, runs gs)) (IPo P ph B' Z dead ρo) := by
  have k1 := h.k1
  have hsz := h.sz
  refine ⟨_, _, ((ρo, (0, ρ)), (L.set (k0 + x - 1) m', runs _)), hrun, ?_, upd ws (k0 + x) w', Bs, k0, _, W, sl, upd E x e', a, b, c, bl, S, cs, st, sm, ρ, _, rfl, ?_, rfl⟩
  · rcases hlt with hlt | ⟨rfl, hlt⟩
    · exact Mz.work (GAr.set hm hlt) _ _
    · have : L.set (k0 + x - 1) m' = L := by
        apply List.ext_getElem?; intro i
        by_cases e : k0 + x - 1 = i
        · subst e; rw [List.getElem?_set_self (by have := h.len; omega), hm]
        · rw [List.getElem?_set_ne e]
      rw [this]; exact Mz.runs hlt
  have hs' : (gs.setIfInBounds (k0 + x) g').size = gs.size := by simp
  have hgs : ∀ k, k ≠ k0 + x → (gs.setIfInBounds (k0 + x) g')[k]? = gs[k]? := fun k hk => Array.getElem?_setIfInBounds_ne (Ne.symm hk)
  refine ⟨by rw [hs']; exact hG.mute (fun op hop => (hu op hop).2.1) (fun op hop => (hu op hop).1), h.b0, h.bw, h.k1, by rw [hs']; exact hsz, by rw [hs', List.length_set]; exact h.len, fun k h1 h2 => ?_, fun y hy => ?_, ?_, ?_, h.ok, by rw [hs']; exact ⟨h.hob.1, hob⟩, h.cC, h.wWg, mode_low hE he h.mode, h.wCh, h.wOb, hj, fun hcl y hy => ?_, fun ha => ?_, fun y hy h3 => ?_, h.tch.mute (fun op hop => (hu op hop).2.1) (fun op hop _ => (hu op hop).2.2 _)⟩
  · obtain ⟨g1, q, e1, e2, e3⟩ := h.lv k h1 h2
    exact ⟨g1, q, by rw [hgs k (by omega), e1], by rw [hu.still]; exact e2, by rw [List.getElem?_set_ne (by omega)]; exact e3⟩
  · by_cases e : y = x
    · subst e
      refine ⟨g', m', Array.getElem?_setIfInBounds_self_of_lt (by omega), ?_, ?_⟩
      · rw [upd_same, upd_same, hu.still]; exact hws
      · rw [List.getElem?_set_self]; have := h.len; omega
    · obtain ⟨g1, m1, e1, e2, e3⟩ := h.wk y hy
      refine ⟨g1, m1, by rw [hgs _ (by omega), e1], ?_, by rw [List.getElem?_set_ne (by omega)]; exact e3⟩
      rw [upd_ne _ _ e, upd_ne _ _ (by omega), hu.still]; exact e2
  · rw [hu.still]; exact h.d0
  · obtain ⟨g0, hg0, hm0⟩ := h.mn
    exact ⟨g0, by rw [hgs 0 (by omega), hg0], by rw [upd_ne _ _ (by omega)]; exact hm0⟩
  · by_cases e : y = x
    · subst e; rw [upd_same]; exact hopn hcl
    · rw [upd_ne _ _ e]; exact h.opn hcl y hy
  · refine Nat.le_trans (Nat.le_of_eq (sumTo_congr fun y hy => ?_)) (h.vb ha)
    by_cases e : y = x
    · subst e; rw [cnt_wds, cnt_wds, upd_same, if_pos (by omega), if_pos (by omega)]
    · simp only [wds, upd_ne _ _ e]
  · by_cases e : y = x
    · subst e; rw [upd_same] at h3; omega
    · rw [upd_ne _ _ e] at h3
      obtain ⟨r, hr⟩ := h.rel y hy h3
      exact ⟨r, relBy_mute hr hu⟩

/-- A job passes from the starter to worker x. -/
theorem PI.meet (hp : PhOk ph) (h : PI P ph B' Z dead ws Bs k0 gs W t E 0 ph.n c bl S cs st sm ρ L) (hbl : bl ≠ 2) {i x lo s : Nat} {tm : Bool} {g0' g' : Goroutine} {w0' w' : World} {ρ' ρw ρw' : Rk} (hx : x < ph.n) (hc : c < ph.N) {d : Nat}
    (hrun : runT P (crowd gs W sl) i = (.next (crowd ((gs.setIfInBounds 0 g0').setIfInBounds (k0 + x) g') ((W.at d).setChan ph.ch 0 #[] false (s + 1) (s + 1) tm) sl), u)) (hu : MuteOps gs.size u)
    (hWc : W.heap[ph.ch]? = some (.chan 0 #[] false s s tm))
    (hG : Grp (upd (upd ws 0 w0') (k0 + x) w') Bs k0 gs.size W t (deadOf ph dead)) (hob : Hid (upd (upd ws 0 w0') (k0 + x) w') gs.size ph.ob) (hE : E x = (0, lo))
    (hm : L[k0 + x - 1]? = some (7, (ρw, 0)))
    (h0' : w0'.output = gho 0 ph.n (c + 1)) (hr0 : RunR P true B' (MAc P ph B') Z ρ' g0' w0') (hlt0 : Rk.lt ρ' ρ)
    (hw' : w'.output = gho 1 c 0) (hs' : g'.status = .running) (hrw : RunR P false (Bs (k0 + x)) (WAc P ph) NoZ ρw' g' w') (hdf : Deaf t (k0 + x) = 0)
    (hwt : ∀ y g m, y < ph.n → y ≠ x → gs[k0 + y]? = some g → WSt P ph (Bs (k0 + y)) false (bl == 1) (Deaf t (k0 + y)) (E y) m g (ws (k0 + y)) W → WSt P ph (Bs (k0 + y)) false false (Deaf t (k0 + y)) (E y) m g (ws (k0 + y)) W) :
    Res P gs W sl i t ((ρo, (0, ρ)), (L, runs gs)) (IPo P ph B' Z dead ρo) := by
  have k1 := h.k1
  have hsz := h.sz
  have ej : jOf ph.n 0 ph.n = ph.n := rfl
  rw [ej] at hsz
  refine ⟨_, _, ((ρo, (0, ρ')), (L.set (k0 + x - 1) (7, (ρw', 0)), runs _)), hrun, Mz.main (.right _ (.right _ hlt0)) _ _, upd (upd ws 0 w0') (k0 + x) w', Bs, k0, _, _, sl, upd E x (1, c), 0, ph.n, c + 1, 0, S, cs, st, sm, ρ', _, rfl, ?_, rfl⟩
  have hsz' : ((gs.setIfInBounds 0 g0').setIfInBounds (k0 + x) g').size = gs.size := by simp
  have hgs : ∀ k, k ≠ k0 + x → k ≠ 0 → ((gs.setIfInBounds 0 g0').setIfInBounds (k0 + x) g')[k]? = gs[k]? := fun k hk h0 => by rw [Array.getElem?_setIfInBounds_ne (Ne.symm hk), Array.getElem?_setIfInBounds_ne (Ne.symm h0)]
  have hdC : Hid (upd (upd ws 0 w0') (k0 + x) w') gs.size ph.ch := (hG.hid ph.ch (.inr (.inr rfl))).2
  have hAp : Apt (upd (upd ws 0 w0') (k0 + x) w') gs.size W ((W.at d).setChan ph.ch 0 #[] false (s + 1) (s + 1) tm) := by
    have := Apt.put (ws := upd (upd ws 0 w0') (k0 + x) w') (W.at d) hdC hp.lC (.chan 0 #[] false (s + 1) (s + 1) tm)
    exact ⟨this.os, this.tape, this.size, this.at_, fun k => this.old ⟨k.out, k.le, k.at_⟩⟩
  have hother : ∀ bb, bb ≠ ph.ch → ((W.at d).setChan ph.ch 0 #[] false (s + 1) (s + 1) tm).heap[bb]? = W.heap[bb]? := fun bb hb => by
    show ((W.at d).heap.setIfInBounds ph.ch _)[bb]? = _
    rw [Array.getElem?_setIfInBounds_ne (Ne.symm hb)]; rfl
  have hC' : Cst ph ((W.at d).setChan ph.ch 0 #[] false (s + 1) (s + 1) tm) := (hother _ hp.cC).trans h.cC.2
  have hwg' : WgAt ph.tWg ph.Wg ((W.at d).setChan ph.ch 0 #[] false (s + 1) (s + 1) tm) st sm := h.wWg.of_block (hother _ hp.wc)
  have hrel : ∀ {y g m}, WSt P ph (Bs (k0 + y)) false false (Deaf t (k0 + y)) (E y) m g (ws (k0 + y)) W → WSt P ph (Bs (k0 + y)) false false (Deaf t (k0 + y)) (E y) m g (ws (k0 + y)) ((W.at d).setChan ph.ch 0 #[] false (s + 1) (s + 1) tm) := fun hh => hh.rely (rw_of ⟨_, _, hwg'⟩ h.cC.2 hC')
  refine ⟨by rw [hsz']; exact (hG.apt hAp).mute (fun op hop => (hu op hop).2.1) (fun op hop => (hu op hop).1), h.b0, h.bw, h.k1, by rw [hsz']; exact hsz, by rw [hsz', List.length_set]; exact h.len, fun k h1 h2 => ?_, fun y hy => ?_, ?_, ?_, .inl ⟨rfl, Nat.le_refl _, hc, fun _ => rfl⟩, by rw [hsz', hAp.size]; exact ⟨h.hob.1, hob⟩, ⟨h.cC.1, hC'⟩, hwg', ?_, ⟨s + 1, tm, ?_⟩, (hother _ (Ne.symm hp.co)).trans h.wOb, ?_, fun hcl y hy => ?_, fun ha => by omega, fun y hy h3 => ?_, h.tch.mute (fun op hop => (hu op hop).2.1) (fun op hop _ => (hu op hop).2.2 _)⟩
  · obtain ⟨g1, q, e1, e2, e3⟩ := h.lv k h1 h2
    exact ⟨g1, q, by rw [hgs k (by omega) (by omega), e1], by rw [hu.still]; exact e2, by rw [List.getElem?_set_ne (by omega)]; exact e3⟩
  · by_cases e : y = x
    · subst e
      refine ⟨g', _, Array.getElem?_setIfInBounds_self_of_lt (by simp; omega), ?_, List.getElem?_set_self (by have := h.len; omega)⟩
      rw [upd_same, upd_same, hu.still, hdf]
      exact .run (by omega) hw' hs' hrw
    · obtain ⟨g1, m1, e1, e2, e3⟩ := h.wk y hy
      refine ⟨g1, m1, by rw [hgs _ (by omega) (by omega), e1], ?_, by rw [List.getElem?_set_ne (by omega)]; exact e3⟩
      rw [upd_ne _ _ e, upd_ne _ _ (by omega), upd_ne _ _ (by omega), hu.still]
      exact hrel (hwt y g1 m1 hy e e1 e2)
  · rw [hu.still]; exact h.d0
  · refine ⟨g0', ?_, ?_⟩
    · rw [Array.getElem?_setIfInBounds_ne (by omega), Array.getElem?_setIfInBounds_self_of_lt (by omega)]
    · rw [upd_ne _ _ (by omega), upd_same]; exact .run h0' hr0
  · have := mode_low (E := E) (x := x) (e := (1, c)) (by rw [hE]; simp) (by simp) h.mode
    have e1 : tagOf 0 ph.n bl = tagOf 0 ph.n 0 := rfl
    rw [← e1]; exact this
  · show ((W.at d).heap.setIfInBounds ph.ch _)[ph.ch]? = _
    rw [Array.getElem?_setIfInBounds_self_of_lt (by have := (Array.getElem?_eq_some_iff.1 hWc).1; exact this)]; rfl
  · exact h.jobs.take hx hE hc
  · by_cases e : y = x
    · subst e; rw [upd_same]; exact Nat.le_refl _
    · rw [upd_ne _ _ e]; exact h.opn rfl y hy
  · by_cases e : y = x
    · subst e; rw [upd_same] at h3; simp at h3
    · rw [upd_ne _ _ e] at h3
      obtain ⟨r, hr⟩ := h.rel y hy h3
      exact ⟨r, relBy_mute hr hu⟩

/-! ### Who offers -/
omit [Old] in
theorem offers_lv {q d : Nat} {g : Goroutine} (h : QuitsD P q d g) (r : Nat) (snd : Bool) : offersAt g r snd = [] := offersAt_of_not_blocked (by rcases h.status with h | h <;> rw [h] <;> simp) r snd
theorem PI.noSend (h : PI P ph B' Z dead ws Bs k0 gs W t E a b c bl S cs st sm ρ L) (hZ : ∀ g w, Z g w → w.output = gho 17 0 0) (hb : bl ≠ 1) : ∀ (i : Nat) (g : Goroutine), gs[i]? = some g → offersAt g ph.ch true = [] := by
  intro i g hg
  have hlt : i < gs.size := (Array.getElem?_eq_some_iff.1 hg).1
  by_cases h0 : i = 0
  · subst h0
    obtain ⟨g0, hg0, hm⟩ := h.mn
    rw [hg] at hg0; cases hg0
    cases hm with
    | run h1 h2 =>
      refine offersAt_of_not_blocked ?_ _ _
      have : g.status = .running := by
        rcases h2.cases with hh | hh | hh
        · have := hZ _ _ (hh _ (Push.refl _)); rw [h1] at this; have := (gho_inj this).1; have := le16 h.ok; omega
        · exact hh.1
        · exact hh.1
      rw [this]; simp
    | send => exact absurd rfl hb
    | sema h1 h2 h3 h4 => unfold offersAt; simp [h3]
  · rcases Nat.lt_or_ge i k0 with hl | hge
    · obtain ⟨g1, q, e1, e2, _⟩ := h.lv i (by omega) hl
      rw [hg] at e1; cases e1
      exact offers_lv e2 _ _
    · obtain ⟨g1, m, e1, e2, _⟩ := h.wk (i - k0) (by have := h.sz; omega)
      rw [show k0 + (i - k0) = i by omega, hg] at e1; cases e1
      generalize Deaf t (k0 + (i - k0)) = dd at e2
      generalize E (i - k0) = ee at e2
      cases e2 with
      | run h1 h2 h3 h4 => exact offersAt_of_not_blocked (by rw [h3]; simp) _ _
      | wait h1 h2 h3 h4 => exact offersAt_parked_recv' _ _ _ _ _
      | try_ h1 h2 h3 => exact offersAt_of_not_blocked (by simp [parked]) _ _
      | lib h1 h2 h3 => exact offersAt_of_not_blocked (by rcases @WSit.status ⟨ph.cty⟩ _ _ _ _ _ _ _ _ _ _ _ _ _ _ _ h3 with h | h <;> rw [h] <;> simp) _ _
end
end Go.Tx
