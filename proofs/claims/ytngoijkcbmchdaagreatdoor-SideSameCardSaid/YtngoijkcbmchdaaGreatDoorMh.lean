/- The pool's machine, eighth part: the starter's steps inside the pool. -/
import Derived.Test.YtngoijkcbmchdaaGreatDoorMg
set_option linter.unusedVariables false
set_option linter.unusedSimpArgs false
namespace Go.Tx
open Go.Conc Go.ConcN
open Go.ConcR (KK wgBlock WgAt stA smA rd wr again_blocked g_of_ofEvents ofEvent_mk Bk)
variable [Old]

omit [Old] in
theorem say_same {w : World} {a b c : Nat} (h : w.output = gho a b c) : w.say a b c = w := by
  cases w; simp only [World.say] at *; subst h; rfl
omit [Old] in
theorem vc_all (E : Nat → Nat × Nat) : ∀ {j : Nat}, (∀ x, x < j → (E x).1 ≤ 4) → Vc j (wds E) = j
  | 0, _ => rfl
  | j + 1, h => by
    have := vc_all E (j := j) fun x hx => h x (by omega)
    simp only [Vc, sumTo] at this ⊢
    rw [cnt_wds, if_pos (h j (by omega)), this]
omit [Old] in
theorem evG_mk {ph : Ph} {k : Nat} {m : Mark} (h : (MemAct.mark m).touch? = none) (hr : ∀ A, m ≠ .release A) : EvG ph k (Go.ConcR.mk m) := by
  rw [EvG, ofEvent_mk]
  exact ⟨fun y hy => (by rw [h] at hy; cases hy), fun A e => hr A (MemAct.mark.inj e)⟩
omit [Old] in
theorem evG_rdSaid (ph : Ph) : EvG ph 0 (rdSaid ph) := by
  have e : MemAct.ofEvent (rdSaid ph) = .mark (.read (smA ph.Wg)) := rfl
  rw [EvG, e]
  refine ⟨fun y hy => ?_, by simp⟩
  simp only [MemAct.touch?, Option.some.injEq] at hy
  subst hy
  exact ⟨rfl, by simp, fun _ => rfl⟩
omit [Old] in
theorem evG_wrSaid (ph : Ph) : EvG ph 0 (wrSaid ph) := by
  have e : MemAct.ofEvent (wrSaid ph) = .mark (.write (smA ph.Wg)) := rfl
  rw [EvG, e]
  refine ⟨fun y hy => ?_, by simp⟩
  simp only [MemAct.touch?, Option.some.injEq] at hy
  subst hy
  exact ⟨rfl, by simp, fun _ => rfl⟩
omit [Old] in
theorem evG_rw (ph : Ph) : ∀ e ∈ #[rd (stA ph.Wg), wr (stA ph.Wg)], EvG ph 0 e := by
  intro e he; simp at he; rcases he with rfl | rfl <;> exact evG_of_bk (bk_cell _ _ rfl)
omit [Old] in
theorem evG_rd (ph : Ph) : ∀ e ∈ #[rd (stA ph.Wg)], EvG ph 0 e := by
  intro e he; simp at he; subst he; exact evG_of_bk (bk_cell _ _ rfl)
omit [Old] in
theorem evG_sem (ph : Ph) : ∀ e ∈ semEvents (smA ph.Wg), EvG ph 0 e := by
  intro e he
  simp [semEvents] at he
  rcases he with rfl | rfl | rfl | rfl
  · exact evG_of_bk (.inl rfl)
  · exact evG_of_bk (bk_cell _ _ rfl)
  · exact evG_of_bk (bk_cell _ _ rfl)
  · exact evG_of_bk (.inr (.inl rfl))

section
variable {P : Program} {ph : Ph} {B' : Nat} {Z : Goroutine → World → Prop} {dead : Nat → Prop} {ws : Nat → World} {Bs : Nat → Nat} {k0 : Nat} {gs : Array Goroutine} {W W' : World} {sl : Option (Nat × Nat)} {t u : Trace}
  {E : Nat → Nat × Nat} {a b c bl : Nat} {S : Nat → Prop} {cs : Array Value} {st sm : Int} {ρ ρo : Rk} {L : List Wm}

/-- A step of the library's, by the starter. -/
theorem PI.mainBook (hp : PhOk ph) (h : PI P ph B' Z dead ws Bs k0 gs W t E a b c 0 S cs st sm ρ L) {g g' : Goroutine} {es : Array Event} {a' b' c' : Nat} {ρ' : Rk} {st' sm' : Int}
    (hg : gs[0]? = some g) (hgo : stepG P true g W = .go g' W' es) (hAs : Aside ph.Wg W W') (hwg : WgAt ph.tWg ph.Wg W' st' sm') (hEv : ∀ e ∈ es, EvG ph 0 e)
    (hR : RunR P true B' (MAc P ph B') Z ρ' g' ((World.upto (ws 0) W).say a' b' c')) (hlt : Rk.lt ρ' ρ) (hj : jOf ph.n a' b' = jOf ph.n a b) (hcl : clOf a' = clOf a) (hse : sentOf ph.N a' c' = sentOf ph.N a c)
    (hok : OkG ph.n ph.N a' b' c') (hd : deafBehind (Deaf t 0) es = deaf0 a') (hmode : ConcN.Mode (jOf ph.n a b) (wds E) (tagOf a' b' 0) st' sm') (hvb : a' = 11 → Vc (jOf ph.n a b) (wds E) ≤ b') :
    Res P gs W sl 0 t ((ρo, (0, ρ)), (L, runs gs)) (IPo P ph B' Z dead ρo) := by
  have k1 := h.k1
  have h0 : 0 < gs.size := by rw [h.sz]; omega
  have hdW : Hid ws gs.size ph.Wg := (h.grp.hid ph.Wg (.inr (.inl rfl))).2
  have hsub := upto_sub (h.grp.team.sees 0 h0).size
  have hG := (h.grp.say h0 a' b' c').evG (fn := g.frame.fn) (pos := g.frame.place) h.tch h0 (.inl rfl) hEv
  have hAp := Apt.aside (ws := upd ws 0 ((World.upto (ws 0) W).say a' b' c')) hAs (hdW.review hsub) hp.lW
  exact h.mainGo (bl' := 0) hg hgo hj hcl hse rfl (hG.apt hAp) ⟨by rw [hAp.size]; exact h.hob.1, h.hob.2.review hsub⟩ ((hAs.block _ hp.cW).trans h.cC.2) hwg (hAs.block _ (Ne.symm hp.wc)) (hAs.block _ (Ne.symm hp.wo)) (.run rfl hR) hok hd hmode hvb (h.tch.evG hp.wo hEv) (.inl hlt)

/-- The starter's go statement. -/
theorem PI.spawn (hp : PhOk ph) {j : Nat} (h : PI P ph B' Z dead ws Bs k0 gs W t E 3 j 0 0 S cs st sm ρ L) {g g' child : Goroutine} {ρ' : Rk}
    (hg : gs[0]? = some g) (hgo : stepG P true g W = .spawn g' child W #[]) (hB : B' ≤ W.heap.size)
    (hch : Run1 P false (World.upto (ws 0) W).heap.size (WAc P ph) (fun _ _ => False) child ((World.upto (ws 0) W).lend B')) (hR : RunR P true B' (MAc P ph B') Z ρ' g' ((World.upto (ws 0) W).say 0 (j + 1) 0)) (hlt : Rk.lt ρ' ρ) :
    Res P gs W sl 0 t ((ρo, (0, ρ)), (L, runs gs)) (IPo P ph B' Z dead ρo) := by
  have k1 := h.k1
  have hsz := h.sz
  have ej : jOf ph.n 3 j = j := rfl
  have ej' : jOf ph.n 0 (j + 1) = j + 1 := rfl
  rw [ej] at hsz
  have h0 : 0 < gs.size := by omega
  have hjn : j < ph.n := by have := h.ok; unfold OkG at this; omega
  have hS := h.grp.team.sees 0 h0
  have hus := upto_size hS.size
  have hsub := upto_sub hS.size
  obtain ⟨ρc, hρc⟩ := hch.rank
  have hrun := runT_crowd_spawn (P := P) (sl := sl) (i := 0) hg (by simpa using hgo)
  generalize hops : ((MemOp.ofEvents 0 g.frame.fn g.frame.place #[]).push { g := 0, fn := g.frame.fn, pos := g.frame.place, act := .go gs.size } |>.push { g := gs.size, fn := child.frame.fn, pos := g.frame.place, act := .start }) = ops at hrun
  let x : MemOp := { g := 0, fn := g.frame.fn, pos := g.frame.place, act := .go gs.size }
  let y : MemOp := { g := gs.size, fn := child.frame.fn, pos := g.frame.place, act := .start }
  have hopsE : ops = #[x, y] := by rw [← hops]; rfl
  subst hopsE
  let wc := (World.upto (ws 0) W).lend B'
  let wm := (World.upto (ws 0) W).say 0 (j + 1) 0
  have wcsz : wc.heap.size = W.heap.size := by show (Array.mapIdx _ _).size = _; rw [Array.size_mapIdx, hus]
  have wcat : ∀ bb, bb < W.heap.size → (bb < B' → wc.heap[bb]? = (World.upto (ws 0) W).heap[bb]?) ∧ (B' ≤ bb → Psn wc bb) := by
    intro bb hbb
    have e : wc.heap[bb]? = ((World.upto (ws 0) W).heap[bb]?).map fun o => if bb < B' then o else poison := by show (Array.mapIdx _ _)[bb]? = _; rw [Array.getElem?_mapIdx]
    have hs : bb < (World.upto (ws 0) W).heap.size := by rw [hus]; exact hbb
    refine ⟨fun hl => ?_, fun hge => ?_⟩
    · rw [e, Array.getElem?_eq_getElem hs]; simp [hl]
    · unfold Psn; rw [e, Array.getElem?_eq_getElem hs]; simp [Nat.not_lt.2 hge]
  have hSc : Sees wc W := by
    refine ⟨hS.os, hS.tape, by rw [wcsz]; exact Nat.le_refl _, fun bb hb => ?_, fun bb o ho => ?_⟩
    · rw [wcsz] at hb
      rcases Nat.lt_or_ge bb B' with hl | hge
      · rw [(wcat bb hb).1 hl]
        by_cases hq : Psn (World.upto (ws 0) W) bb
        · left; unfold Psn; rw [(wcat bb hb).1 hl]; exact hq
        · exact .inr (hS.over.same bb hq)
      · exact .inl ((wcat bb hb).2 hge)
    · have hb : bb < W.heap.size := by rw [← wcsz]; exact (Array.getElem?_eq_some_iff.1 ho).1
      rcases Nat.lt_or_ge bb B' with hl | hge
      · rw [(wcat bb hb).1 hl] at ho; exact hS.noView bb o ho
      · have := (wcat bb hb).2 hge; unfold Psn at this; rw [this] at ho; cases ho; rfl
  have hwcsub : ∀ bb, bb < wc.heap.size → ¬ Psn wc bb → bb < B' ∧ bb < (ws 0).heap.size ∧ ¬ Psn (ws 0) bb := by
    intro bb hb hq
    rw [wcsz] at hb
    rcases Nat.lt_or_ge bb B' with hl | hge
    · have := hsub bb (by rw [hus]; exact hb) (fun hp' => hq (by unfold Psn; rw [(wcat bb hb).1 hl]; exact hp'))
      exact ⟨hl, this⟩
    · exact absurd ((wcat bb hb).2 hge) hq
  let ws' := upd (upd ws 0 wm) gs.size wc
  let Bs' := upd Bs gs.size W.heap.size
  have hnt : ∀ op ∈ #[x, y], op.act.touch? = none := by intro op hop; simp at hop; rcases hop with rfl | rfl <;> rfl
  have hnm : ∀ op ∈ #[x, y], ∀ m, op.act ≠ .mark m := by intro op hop; simp at hop; rcases hop with rfl | rfl <;> simp [x, y]
  have hmu : MuteOps (gs.size + 1) #[x, y] := by
    intro op hop
    refine ⟨?_, hnt op hop, hnm op hop⟩
    simp at hop; rcases hop with rfl | rfl <;> simp [x, y]
  have d0 : Deaf t 0 = 0 := h.d0
  have dn : Deaf t gs.size = 0 := Deaf_absent fun i op hi e => by have := h.grp.gsz i op hi; omega
  have kn : ∀ i, Knows t 0 i → Knows (t ++ #[x, y]) gs.size i := fun i hk => fork_knows (x := x) (y := y) ⟨rfl, rfl⟩ ⟨rfl, rfl⟩ d0 dn hk
  have wsz : ∀ k, k < gs.size → ws' k = upd ws 0 wm k := fun k hk => upd_ne _ _ (by omega)
  have hG0 : Grp (upd ws 0 wm) Bs k0 gs.size W t (deadOf ph dead) := h.grp.say h0 0 (j + 1) 0
  have hMine : ∀ k bb, Mine ws' Bs' (gs.size + 1) k bb → Mine (upd ws 0 wm) Bs gs.size k bb := by
    intro k bb ⟨q0, q1, q2, q3⟩
    by_cases e : k = gs.size
    · subst e
      simp only [ws', Bs', upd_same] at q1 q2
      rw [wcsz] at q2; omega
    · simp only [ws', Bs', upd_ne _ _ e] at q1 q2 q3
      exact ⟨by omega, q1, q2, q3⟩
  have hHid : ∀ bb, bb < W.heap.size → Hid ws gs.size bb → Hid ws' (gs.size + 1) bb := by
    intro bb hb hh k hk hbk
    by_cases e : k = gs.size
    · subst e
      simp only [ws', upd_same] at hbk ⊢
      by_cases hq : Psn wc bb
      · exact hq
      · obtain ⟨_, q1, q2⟩ := hwcsub bb hbk hq
        exact absurd (hh 0 h0 q1) q2
    · simp only [ws', upd_ne _ _ e] at hbk ⊢
      exact (hh.review (w' := wm) hsub) k (by omega) hbk
  have hTeam : Team ws' Bs' (gs.size + 1) W (t ++ #[x, y]) := by
    refine ⟨fun k hk => ?_, fun i k bb hik hk hm hb => ?_, ⟨fun k bb l hm hl => ?_, fun k bb l hm hl => ?_, fun said => ?_, fun op hop z bb hz hb => ?_⟩, hG0.team.old, fun k hk => ?_⟩
    rotate_left 6
    · by_cases e : k = gs.size
      · subst e; simp only [Bs', upd_same]; exact hG0.team.old.le
      · simp only [Bs', upd_ne _ _ e]; exact h.grp.team.lo k (by omega)
    · by_cases e : k = gs.size
      · subst e; simp only [ws', upd_same]; exact hSc
      · simp only [ws', upd_ne _ _ e]; exact hG0.team.sees k (by omega)
    · have hm' := hMine i bb hm
      by_cases e : k = gs.size
      · subst e
        simp only [ws', upd_same] at hb ⊢
        by_cases hq : Psn wc bb
        · exact hq
        · obtain ⟨q0, q1, q2⟩ := hwcsub bb hb hq
          obtain ⟨m0, m1, m2, m3⟩ := hm'
          by_cases ei : i = 0
          · subst ei; rw [h.b0] at m1; omega
          · rw [upd_ne _ _ ei] at m2 m3
            exact absurd (h.grp.team.apart i 0 bb ei h0 ⟨m0, m1, m2, m3⟩ q1) q2
      · simp only [ws', upd_ne _ _ e] at hb ⊢
        exact hG0.team.apart i k bb hik (by omega) hm' hb
    · exact (hG0.team.tr.own k bb l (hMine k bb hm) hl).app fun op hop z hz _ => by rw [hnt op hop] at hz; cases hz
    · obtain ⟨q0, q1, q2, q3⟩ := hm
      by_cases e : k = gs.size
      · subst e
        simp only [ws', upd_same] at q2 q3
        obtain ⟨p0, p1, p2⟩ := hwcsub bb q2 q3
        intro i aa ha hla hw
        rcases touch_app ha with ⟨_, ha'⟩ | ⟨op, hop, _, hz⟩
        · exact kn i (h.grp.team.tr.rd 0 bb l ⟨h0, by rw [h.b0]; exact p0, p1, p2⟩ hl i aa ha' hla hw)
        · rw [hnt op hop] at hz; cases hz
      · simp only [ws', Bs', upd_ne _ _ e] at q1 q2 q3
        exact PermW.app (hG0.team.tr.rd k bb l ⟨by omega, q1, q2, q3⟩ hl) fun op hop z hz _ _ => by rw [hnt op hop] at hz; cases hz
    · have := noTouch_app (h.grp.team.tr.nr said) [x, y] (by simpa using hnt); simpa using this
    · rcases Array.mem_append.1 hop with hop | hop
      · exact h.grp.team.tr.low op hop z bb hz hb
      · rw [hnt op hop] at hz; cases hz
  have hgsz' : ((gs.setIfInBounds 0 g').push child).size = gs.size + 1 := by simp
  have hget : ∀ k, k ≠ 0 → k < gs.size → ((gs.setIfInBounds 0 g').push child)[k]? = gs[k]? := fun k hk hlt => by
    rw [Array.getElem?_push_lt (by simpa using hlt), ← Array.getElem?_eq_getElem, Array.getElem?_setIfInBounds_ne (Ne.symm hk)]
  have hstill : ∀ k, Deaf (t ++ #[x, y]) k = Deaf t k := fun k => hmu.still t k
  have hold : ∀ i, OldKn k0 j t i → OldKn k0 (j + 1) (t ++ #[x, y]) i := fun i ⟨q0, q1⟩ => ⟨q0.app _, fun z hz => by
    by_cases e : z = j
    · subst e
      have := kn i q0
      rwa [hsz] at this
    · exact (q1 z (by omega)).app _⟩
  have lg : ∀ (k : Nat) (v : Wm), k < gs.size → ((L ++ [((7 : Nat), ((ρc : Rk), (0 : Nat)))])[k - 1]? = some v ↔ (k - 1 < L.length ∧ L[k - 1]? = some v) ∨ (k - 1 = L.length ∧ v = (7, (ρc, 0)))) := by
    intro k v hk
    rcases Nat.lt_or_ge (k - 1) L.length with hl | hge
    · rw [List.getElem?_append_left hl]; constructor
      · exact fun q => .inl ⟨hl, q⟩
      · rintro (q | q)
        · exact q.2
        · omega
    · have := h.len; rw [List.getElem?_append_right hge]; constructor
      · intro q; right; have e : k - 1 = L.length := by omega
        rw [e] at q; simp at q; exact ⟨e, q.symm⟩
      · rintro (q | q)
        · omega
        · rw [q.1]; simp [q.2]
  refine ⟨_, _, ((ρo, (0, ρ')), (L ++ [(7, (ρc, 0))], runs _)), hrun, Mz.main (.right _ (.right _ hlt)) _ _, ws', Bs', k0, _, W, sl, upd E j (0, 0), 0, j + 1, 0, 0, S, cs, st, sm, ρ', _, rfl, ?_, rfl⟩
  refine ⟨?_, ?_, fun z hz => ?_, h.k1, by rw [hgsz', ej']; omega, by rw [hgsz', List.length_append]; have := h.len; simp; omega, fun k q1 q2 => ?_, fun z hz => ?_, ?_, ?_, .inl ⟨rfl, hjn, Nat.zero_le _, fun hh => by omega⟩, ?_, h.cC, h.wWg, ?_, h.wCh, h.wOb, ?_, fun hcl z hz => ?_, fun ha => by omega, fun z hz h3 => ?_, ?_⟩
  · rw [hgsz']
    refine ⟨hTeam, fun k hk => ?_, fun i gg hgi hne hlt hc => ?_, fun i aa ha hk => ?_, fun bb hb => ?_, fun i op hi => ?_⟩
    · by_cases e : k = gs.size
      · subst e; simp only [Bs', upd_same]; exact Nat.le_refl _
      · simp only [Bs', upd_ne _ _ e]; exact h.grp.bs k (by omega)
    · rcases g_app hgi with hgo' | ⟨hge, op, hop, rfl, ho⟩
      · have hi : i < t.size := by
          obtain ⟨op, ho, _⟩ := Option.map_eq_some_iff.1 hgo'
          exact lt_size_of_getElem? ho
        exact (h.grp.hand i gg hgo' hne hlt ((counts_old hi).1 hc)).app _
      · obtain ⟨z, hz, _⟩ := hc
        have := touchAt_of ho
        rw [touchAt, hz, hnt op hop] at this; cases this
    · rcases touch_app ha with ⟨_, ha'⟩ | ⟨op, hop, _, hz⟩
      · exact h.grp.np i aa ha' hk
      · rw [hnt op hop] at hz; cases hz
    · obtain ⟨q1, q2⟩ := h.grp.hid bb hb
      exact ⟨q1, hHid bb q1 q2⟩
    · rcases getElem?_append_cases hi with ⟨_, hi'⟩ | ⟨_, hiu⟩
      · have := h.grp.gsz i op hi'; omega
      · exact (hmu op hiu).1
  · simp only [Bs', upd_ne _ _ (show 0 ≠ gs.size by omega)]; exact h.b0
  · rw [ej'] at hz
    by_cases e : z = j
    · subst e; simp only [Bs']; rw [← hsz, upd_same]; exact hB
    · simp only [Bs']; rw [upd_ne _ _ (by omega)]; exact h.bw z (by rw [ej]; omega)
  · obtain ⟨g1, q, e1, e2, e3⟩ := h.lv k q1 q2
    refine ⟨g1, q, by rw [hget k (by omega) (by omega)]; exact e1, by rw [hstill]; exact e2, (lg _ _ (by omega)).2 (.inl ⟨by have := (List.getElem?_eq_some_iff.1 e3).1; exact this, e3⟩)⟩
  · rw [ej'] at hz
    by_cases e : z = j
    · subst e
      refine ⟨child, (7, (ρc, 0)), ?_, ?_, ?_⟩
      · rw [← hsz, show gs.size = (gs.setIfInBounds 0 g').size by simp, Array.getElem?_push_size]
      · rw [upd_same, hstill, ← hsz, dn]
        simp only [ws', Bs', upd_same]
        have hc' : RunR P false W.heap.size (WAc P ph) NoZ ρc child wc := by have := hρc; rw [hus] at this; exact this
        exact .run (by omega) rfl (runR_running hc') hc'
      · rw [show k0 + z - 1 = L.length by have := h.len; omega]; simp
    · obtain ⟨g1, m1, e1, e2, e3⟩ := h.wk z (by rw [ej]; omega)
      refine ⟨g1, m1, by rw [hget _ (by omega) (by omega)]; exact e1, ?_, (lg _ _ (by omega)).2 (.inl ⟨(List.getElem?_eq_some_iff.1 e3).1, e3⟩)⟩
      rw [upd_ne _ _ e, hstill]
      simp only [ws', Bs', upd_ne _ _ (show k0 + z ≠ gs.size by omega), upd_ne _ _ (show k0 + z ≠ 0 by omega)]
      exact e2
  · rw [hstill]; exact d0
  · refine ⟨g', ?_, ?_⟩
    · rw [Array.getElem?_push_lt (by simpa using h0)]; simp [h0]
    · simp only [ws', upd_ne _ _ (show 0 ≠ gs.size by omega), upd_same]
      exact .run rfl hR
  · rw [hgsz']; exact ⟨h.hob.1, hHid _ h.hob.1 h.hob.2⟩
  · obtain ⟨ho, hst, hsm, _⟩ := h.mode.open_inv (by rw [show tagOf 3 j 0 = .sp 0 3 from rfl]; trivial)
    rw [ej] at ho hst
    rw [ej', hst, hsm]
    have eV : Vc (j + 1) (wds (upd E j (0, 0))) = Vc j (wds E) + 1 := by
      rw [wds_upd]; simp only [Vc, sumTo, ConcN.upd_same]
      rw [sumTo_upd_out (wds E) _ cnt (Nat.le_refl _)]; rfl
    have est : ((Vc j (wds E) + pend (tagOf 3 j 0) : Nat) : Int) * KK = ((Vc (j + 1) (wds (upd E j (0, 0))) + pend (tagOf 0 (j + 1) 0) : Nat) : Int) * KK := by rw [eV]; rfl
    rw [est]
    refine .opn trivial (fun z hz => ?_) (fun vs ev => by cases ev)
    by_cases e : z = j
    · subst e; simp [wds, upd_same, stageOf]
    · have := ho z (by omega); simp only [wds, upd_ne _ _ e]; exact this
  · rw [ej']; have := h.jobs; rw [ej] at this; exact this.more
  · rw [ej'] at hz
    by_cases e : z = j
    · subst e; rw [upd_same]; exact Nat.zero_le _
    · rw [upd_ne _ _ e]; exact h.opn rfl z (by rw [ej]; omega)
  · rw [ej'] at hz
    by_cases e : z = j
    · subst e; rw [upd_same] at h3; simp at h3
    · rw [upd_ne _ _ e] at h3
      obtain ⟨r, hr⟩ := h.rel z (by rw [ej]; omega) h3
      exact ⟨r, relBy_mute hr hmu⟩
  · rw [ej']
    have hT := h.tch
    rw [ej] at hT
    refine ⟨fun A => (hT.nor A).app fun op hop => hnm op hop _, fun i z hz hb => ?_, fun i z hz hb => ?_, fun i z hz hb => ?_⟩
    · rcases touch_app hz with ⟨hlt, hz'⟩ | ⟨op, hop, _, hz'⟩
      · rcases hT.wg i z hz' hb with q | ⟨q1, q2⟩
        · exact .inl (hold i q)
        · exact .inr ⟨q1, fun e => by rw [g?_old hlt]; exact q2 e⟩
      · rw [hnt op hop] at hz'; cases hz'
    · rcases touch_app hz with ⟨hlt, hz'⟩ | ⟨op, hop, _, hz'⟩
      · rcases hT.ob i z hz' hb with q | q
        · exact .inl (hold i q)
        · exact .inr q
      · rw [hnt op hop] at hz'; cases hz'
    · rcases touch_app hz with ⟨hlt, hz'⟩ | ⟨op, hop, _, hz'⟩
      · exact hT.chn i z hz' hb
      · rw [hnt op hop] at hz'; cases hz'
end
end Go.Tx
