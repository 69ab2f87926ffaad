/- The pool's machine, twelfth part: a pool's beginning; every step; FROM THE ENTRY TO THE RETURN. -/
import Derived.Test.YtngoijkcbmchdaaGreatDoorMk
set_option linter.unusedVariables false
set_option linter.unusedSimpArgs false
namespace Go.Tx
open Go.Conc Go.ConcN
open Go.ConcR (KK wgBlock WgAt stA smA rd wr again_blocked g_of_ofEvents ofEvent_mk Bk bk_of_mute ofEvent_loc_mark)
variable [Old]

section
variable {P : Program} {ph : Ph} {B0 B' : Nat} {Zo : Goroutine → World → Prop} {Q : Value → World → Prop} {K : Goroutine → World → Prop} {lg : TypeId → Nat → Prop} {dead : Nat → Prop} {ws : Nat → World} {Bs : Nat → Nat} {k0 : Nat} {gs : Array Goroutine} {W W' : World} {sl : Option (Nat × Nat)} {t u : Trace}
  {E : Nat → Nat × Nat} {a b c bl : Nat} {S : Nat → Prop} {cs : Array Value} {st sm : Int} {ρ ρo : Rk} {L : List Wm} {mm : Mm}

theorem SI.drew (h : SI P B0 Zo lg dead ws Bs gs W t L mm) (d : Nat) : SI P B0 Zo lg dead ws Bs gs (W.at d) t L mm := ⟨h.grp.drew d, h.b0, h.n1, h.len, h.lv, h.d0, h.nor, h.mn, h.chn, h.wl⟩

/-- A pool begins. -/
theorem SI.pool (h : SI P B0 Zo lg dead ws Bs gs W t L mm) {g : Goroutine} {ρ' : Rk} {Z : Goroutine → World → Prop} (hg : gs[0]? = some g) (hw : (World.upto (ws 0) W).output = gho 30 ph.ch 0)
    (hWg : (World.upto (ws 0) W).heap[ph.Wg]? = some (wgBlock ph.tWg 0 0)) (hWgB : B0 ≤ ph.Wg) (hob : (World.upto (ws 0) W).heap[ph.ob]? = some (.cells cs ph.ety)) (hobB : B0 ≤ ph.ob) (hobP : ¬ Psn (World.upto (ws 0) W) ph.ob) (hne : ph.Wg ≠ ph.ob) (hsz : cs.size = ph.N * ph.cpe) (hcp : 0 < ph.cpe)
    (hC : Cst ph (World.upto (ws 0) W)) (hCW : ph.C ≠ ph.Wg) (hCo : ph.C ≠ ph.ob) (hF : ∀ i, i < ph.N → (ph.F i).length = ph.cpe) (hn : 0 < ph.n) (hn' : ph.n < 2147483648)
    (hR : RunR P true (World.upto (ws 0) W).heap.size (MAc P ph (World.upto (ws 0) W).heap.size) Z ρ' g { World.upto (ws 0) W with heap := ((World.upto (ws 0) W).heap.setIfInBounds ph.Wg poison).setIfInBounds ph.ob poison, output := gho 0 0 0 }) :
    PhOk ph ∧ ¬ dead ph.ob ∧ (Old.b ≤ B0 ∧ B0 ≤ (World.upto (ws 0) W).heap.size) ∧ (World.upto (ws 0) W).heap.size ≤ W.heap.size ∧
    ∃ ws' Bs', PI P ph (World.upto (ws 0) W).heap.size Z dead ws' Bs' gs.size gs W t (fun _ => (0, 0)) 0 0 0 0 (fun _ => False) cs 0 0 ρ' L := by
  have h0 := h.n1
  have hS := h.grp.team.sees 0 h0
  have hus := upto_size hS.size
  have hsub := upto_sub hS.size
  obtain ⟨⟨c1, c1b⟩, c2, ⟨tm, c3⟩, c4⟩ := h.chn ph.ch hw
  have hlb : Old.b ≤ B0 := by have := h.grp.team.lo 0 h0; rw [h.b0] at this; exact this
  let w1 := World.upto (ws 0) W
  have hpz : ∀ bb, bb < W.heap.size → Hid ws gs.size bb → Psn w1 bb := by
    intro bb hb hh
    rcases Nat.lt_or_ge bb (ws 0).heap.size with hlt | hge
    · unfold Psn; rw [upto_old hlt]; exact hh 0 h0 hlt
    · exact upto_new hge hb
  have hWgP : ¬ Psn w1 ph.Wg := by intro hp; unfold Psn at hp; rw [hWg] at hp; simp [wgBlock, poison] at hp
  have hCP : ¬ Psn w1 ph.C := by intro hp; unfold Psn at hp; unfold Cst at hC; rw [hC] at hp; simp [poison] at hp
  have lWg : ph.Wg < W.heap.size := by rw [← hus]; exact (Array.getElem?_eq_some_iff.1 hWg).1
  have lob : ph.ob < W.heap.size := by rw [← hus]; exact (Array.getElem?_eq_some_iff.1 hob).1
  have lC : ph.C < W.heap.size := by rw [← hus]; exact (Array.getElem?_eq_some_iff.1 hC).1
  have ncW : ph.Wg ≠ ph.ch := fun e => hWgP (by rw [e]; exact hpz _ c1 c2)
  have nco : ph.ch ≠ ph.ob := fun e => hobP (by rw [← e]; exact hpz _ c1 c2)
  have ncC : ph.C ≠ ph.ch := fun e => hCP (by rw [e]; exact hpz _ c1 c2)
  have hdo : ¬ dead ph.ob := fun hd => hobP (hpz _ (h.grp.hid _ hd).1 (h.grp.hid _ hd).2)
  have mine : ∀ bb, B0 ≤ bb → bb < W.heap.size → ¬ Psn w1 bb → Mine ws Bs gs.size 0 bb := fun bb hB hb hp => by
    obtain ⟨q1, q2⟩ := hsub bb (by rw [hus]; exact hb) hp
    exact ⟨h0, by rw [h.b0]; exact hB, q1, q2⟩
  have mW := mine ph.Wg hWgB lWg hWgP
  have mO := mine ph.ob hobB lob hobP
  let w2 : World := { World.upto (ws 0) W with heap := ((World.upto (ws 0) W).heap.setIfInBounds ph.Wg poison).setIfInBounds ph.ob poison, output := gho 0 0 0 }
  have w2s : w2.heap.size = W.heap.size := by show (((World.upto (ws 0) W).heap.setIfInBounds _ _).setIfInBounds _ _).size = _; simp [hus]
  have w2W : Psn w2 ph.Wg := by
    show (((World.upto (ws 0) W).heap.setIfInBounds _ _).setIfInBounds _ _)[ph.Wg]? = _
    rw [Array.getElem?_setIfInBounds_ne (Ne.symm hne), Array.getElem?_setIfInBounds_self_of_lt (by rw [hus]; exact lWg)]
  have w2O : Psn w2 ph.ob := by
    show (((World.upto (ws 0) W).heap.setIfInBounds _ _).setIfInBounds _ _)[ph.ob]? = _
    rw [Array.getElem?_setIfInBounds_self_of_lt (by simp [hus]; exact lob)]
  have w2at : ∀ bb, bb ≠ ph.Wg → bb ≠ ph.ob → w2.heap[bb]? = (World.upto (ws 0) W).heap[bb]? := fun bb h1 h2 => by
    show (((World.upto (ws 0) W).heap.setIfInBounds _ _).setIfInBounds _ _)[bb]? = _
    rw [Array.getElem?_setIfInBounds_ne (Ne.symm h2), Array.getElem?_setIfInBounds_ne (Ne.symm h1)]
  have hS2 : Sees w2 W := by
    refine ⟨hS.os, hS.tape, by rw [w2s]; exact Nat.le_refl _, fun bb hb => ?_, fun bb o ho => ?_⟩
    · by_cases e1 : bb = ph.Wg
      · subst e1; exact .inl w2W
      · by_cases e2 : bb = ph.ob
        · subst e2; exact .inl w2O
        · by_cases hq : Psn (World.upto (ws 0) W) bb
          · left; unfold Psn; rw [w2at bb e1 e2]; exact hq
          · right; rw [w2at bb e1 e2]; exact hS.over.same bb hq
    · by_cases e1 : bb = ph.Wg
      · subst e1; unfold Psn at w2W; rw [w2W] at ho; cases ho; rfl
      · by_cases e2 : bb = ph.ob
        · subst e2; unfold Psn at w2O; rw [w2O] at ho; cases ho; rfl
        · rw [w2at bb e1 e2] at ho; exact hS.noView bb o ho
  have hsub2 : ∀ bb, bb < w2.heap.size → ¬ Psn w2 bb → bb < (ws 0).heap.size ∧ ¬ Psn (ws 0) bb := by
    intro bb hb hp
    have e1 : bb ≠ ph.Wg := fun e => hp (by rw [e]; exact w2W)
    have e2 : bb ≠ ph.ob := fun e => hp (by rw [e]; exact w2O)
    exact hsub bb (by rw [hus, ← w2s]; exact hb) (fun q => hp (by unfold Psn; rw [w2at bb e1 e2]; exact q))
  have hid2 : ∀ bb, B0 ≤ bb → Mine ws Bs gs.size 0 bb → Psn w2 bb → Hid (upd ws 0 w2) gs.size bb := by
    intro bb hB hm hp k hk hb
    by_cases e : k = 0
    · subst e; rw [upd_same]; exact hp
    · rw [upd_ne _ _ e] at hb ⊢; exact h.grp.team.apart 0 k bb (Ne.symm e) hk hm hb
  have hB0 : B0 ≤ W.heap.size := by have := h.grp.bs 0 h0; rw [h.b0] at this; exact this
  have hBle : Bs 0 ≤ w1.heap.size := by show _ ≤ (World.upto (ws 0) W).heap.size; rw [hus, h.b0]; exact hB0
  have hT : Team (upd ws 0 w2) (upd Bs 0 w1.heap.size) gs.size W t := h.grp.team.weaken hS2 hsub2 hBle h0
  refine ⟨⟨hn, hn', hcp, hF, ncW, hne, nco, hCW, ncC, hCo, Nat.le_trans hlb hWgB, Nat.le_trans hlb hobB, c1b⟩, hdo, ⟨hlb, by rw [hus]; exact hB0⟩, by rw [hus]; exact Nat.le_refl _, upd ws 0 w2, upd Bs 0 w1.heap.size, ?_⟩
  refine ⟨⟨hT, fun k hk => ?_, h.grp.hand, fun i x hx hk => ?_, fun bb hb => ?_, h.grp.gsz⟩, upd_same _ _ _, fun x hx => (by cases hx), h0, rfl, h.len, h.lv, fun x hx => (by cases hx), h.d0, ⟨g, hg, by rw [upd_same]; exact .run rfl hR⟩, .inl ⟨rfl, Nat.zero_le _, Nat.zero_le _, fun hh => by omega⟩,
    ⟨lob, hid2 _ hobB mO w2O⟩, ⟨by show _ < (World.upto (ws 0) W).heap.size; rw [hus]; exact lC, (hS.over.same _ hCP).trans hC⟩, (hS.over.same _ hWgP).trans hWg, ?_, ⟨0, tm, c3⟩, (hS.over.same _ hobP).trans hob, ?_, fun _ x hx => (by cases hx), fun ha => by omega, fun x hx => (by cases hx), ⟨h.nor, fun i x hx hb => .inl ⟨?_, fun y hy => (by cases hy)⟩, fun i x hx hb => .inl ⟨?_, fun y hy => (by cases hy)⟩, fun i x hx hb => absurd hb (c4 i x hx)⟩⟩
  · by_cases e : k = 0
    · subst e; rw [upd_same]; show (World.upto (ws 0) W).heap.size ≤ _; rw [hus]; exact Nat.le_refl _
    · rw [upd_ne _ _ e]; exact h.grp.bs k hk
  · obtain ⟨b2, q1, q2⟩ := h.grp.np i x hx hk
    exact ⟨b2, q1, .inl q2⟩
  · rcases hb with q | rfl | rfl
    · exact ⟨(h.grp.hid bb q).1, (h.grp.hid bb q).2.review hsub2⟩
    · exact ⟨lWg, hid2 _ hWgB mW w2W⟩
    · exact ⟨c1, c2.review hsub2⟩
  · have : (0 : Int) = ((Vc 0 (wds fun _ => (0, 0)) + pend (tagOf 0 0 0) : Nat) : Int) * KK := by simp [Vc, sumTo, pend, tagOf]
    show ConcN.Mode 0 _ (tagOf 0 0 0) 0 0
    rw [this]
    exact .opn trivial (fun i hi => by omega) (fun vs ev => by cases ev)
  · exact ⟨hsz, Nat.zero_le _, fun i hi => by simp [sentOf] at hi, fun x i hx => (by cases hx), fun x y i hx => (by cases hx), fun i hi => hi.elim, fun x hx => (by cases hx)⟩
  · exact h.grp.team.tr.own 0 ph.Wg x.loc mW hb i x hx rfl
  · exact h.grp.team.tr.own 0 ph.ob x.loc mO hb i x hx rfl

/-- The starter outside the pools. -/
theorem SI.out (h : SI P B0 (Ret P Q) lg dead ws Bs gs W t L (ρ, (1, rk0))) {g : Goroutine} (hg : gs[0]? = some g) (hR : RunR P true B0 (OAc P B0) (Ret P Q) ρ g (ws 0)) : Out P B0 Q gs W sl 0 t ((ρ, (1, rk0)), (L, runs gs)) := by
  have h0 := h.n1
  have hS := h.grp.team.sees 0 h0
  have hO := hS.over
  rcases hR.cases with hz | ⟨_, hs⟩ | ⟨hrun, ha⟩
  · obtain ⟨_, v, hst, hq⟩ := hz _ hS.push
    refine .inr ⟨v, _, ?_, hq, ⟨hS.upto, h.grp.team.old⟩, fun said => h.grp.team.tr.nr said, fun i gg hgi hne hc => ?_, fun k g1 hk hk0 => ?_⟩
    · exact runT_crowd_ended hg (show stepG P (0 == 0) g W = _ from hst W hO)
    · obtain ⟨op, ho, hog⟩ := Option.map_eq_some_iff.1 hgi
      obtain ⟨q, z, e1, e2, e3⟩ := h.grp.hand i gg hgi hne (by rw [← hog]; exact h.grp.gsz i op ho) hc
      refine ⟨q, by rw [Trace.g?, e1]; simp [e2], e3.resolve_left ?_⟩
      rintro rfl
      rw [ho] at e1; cases e1; exact hne (hog.symm.trans e2)
    · obtain ⟨g2, q, e1, e2, _⟩ := h.lv k (by omega) (Array.getElem?_eq_some_iff.1 hk).1
      rw [hk] at e1; cases e1
      exact ⟨q, e2⟩
  · obtain ⟨ρ', g', w', es, hlt, hT, hv, hR'⟩ := hs _ hS.push hS.noView
    exact ((h.own (mm' := (ρ', (1, rk0))) hg hT hv (.out hR') (.left _ _ hlt)).mono fun _ _ _ q => .inl q).out
  · obtain ⟨KK', hK', hcont⟩ := ha _ hS.push hS.noView
    cases hK' with
    | chan tm hdo =>
      obtain ⟨g', hgo, hk'⟩ := hdo W hO
      obtain ⟨ρ', hlt, hR'⟩ := hcont _ _ hk'
      exact ((h.chan (mm' := (ρ', (1, rk0))) hg hgo (.out hR') (.left _ _ hlt)).mono fun _ _ _ q => .inl q).out
    | pool ph cs hw hWg hWgB hob hobB hobP hne hsz hcp hC hCW hCo hF hn hn' hRun =>
      obtain ⟨ρ', hR'⟩ := hRun.rank
      obtain ⟨hp, hdo, hBB, hBW, ws', Bs', hPI⟩ := h.pool hg hw hWg hWgB hob hobB hobP hne hsz hcp hC hCW hCo hF hn hn' hR'
      have := (hPI.main (sl := sl) (ρo := ρ) hp hdo hBB hcont hg hrun hBW).mono (J := IAll P B0 (Ret P Q)) fun μ m t q => q.elim .inl fun x => .inr ⟨ph, _, KK', dead, ρ, hp, hdo, hBB, hcont, x⟩
      exact this.out.less (.single (Mz.main (.right _ (.left _ _ (by omega))) _ _))

theorem SI.run0 (h : SI P B0 (Ret P Q) lg dead ws Bs gs W t L mm) {g : Goroutine} (hg : gs[0]? = some g) : g.status = .running := by
  obtain ⟨g1, e1, hO⟩ := h.mn
  rw [hg] at e1; cases e1
  cases hO with
  | out hR =>
    rcases hR.cases with hz | hs | hs
    · exact (hz _ (Push.refl _)).1
    · exact hs.1
    · exact hs.1
  | tail ho hR hB hlv hK =>
    rcases hR.cases with hz | hs | hs
    · obtain ⟨ρ'', _, hR'⟩ := hK _ _ (hz _ (Push.refl _)).2
      rcases hR'.cases with hz | hs | hs
      · exact (hz _ (Push.refl _)).1
      · exact hs.1
      · exact hs.1
    · exact hs.1
    · exact hs.1

theorem SI.step (h : SI P B0 (Ret P Q) lg dead ws Bs gs W t L mm) {i : Nat} {g : Goroutine} (hg : gs[i]? = some g) (hrun : g.status = .running) : Out P B0 Q gs W sl i t (mm, (L, runs gs)) := by
  by_cases hi : i = 0
  · subst hi
    obtain ⟨g1, e1, hO⟩ := h.mn
    rw [hg] at e1; cases e1
    cases hO with
    | out hR => exact h.out hg hR
    | tail ho hR hB hlv hK =>
      rename_i ρ ρ' ph B' K
      rcases hR.cases with hz | ⟨_, hs⟩ | ⟨_, ha⟩
      · obtain ⟨ρ'', hlt, hR'⟩ := hK _ _ (hz _ (Push.refl _)).2
        have h' : SI P B0 (Ret P Q) lg dead ws Bs gs W t L (ρ'', (1, rk0)) := { h with mn := ⟨g, hg, .out hR'⟩ }
        exact (h'.out hg hR').less (.single (Mz.main (.left _ _ hlt) _ _))
      · have hS := h.grp.team.sees 0 h.n1
        obtain ⟨ρ'', g', w', es, hlt, hT, hv, hR'⟩ := hs _ hS.push hS.noView
        exact ((h.own (mm' := (ρ, (0, ρ''))) hg (hT.mono hB) hv (.tail (hT.1.2.2.trans ho) hR' hB hlv hK) (.right _ (.right _ hlt))).mono fun _ _ _ q => .inl q).out
      · have hS := h.grp.team.sees 0 h.n1
        obtain ⟨K', hK', hcont⟩ := ha _ hS.push hS.noView
        have ho' : (World.upto (ws 0) W).output = gho 17 0 0 := ho
        cases hK' with
        | idle hw hle hdo =>
          obtain ⟨_, _, hl⟩ := h.wl _ _ hlv
          obtain ⟨g', hgo, hk'⟩ := hdo W hS.over hl trivial
          obtain ⟨ρ'', hlt, hR'⟩ := hcont _ _ hk'
          exact ((h.idle (mm' := (ρ, (0, ρ''))) hg hgo (.tail ho' hR' hB hlv hK) (.right _ (.right _ hlt))).mono fun _ _ _ q => .inl q).out
        | dis hw => have := (gho_inj (ho'.symm.trans hw)).1; omega
        | add hw => have := (gho_inj (ho'.symm.trans hw)).1; omega
        | said hw => have := (gho_inj (ho'.symm.trans hw)).1; omega
        | en hw => have := (gho_inj (ho'.symm.trans hw)).1; omega
        | go hw => have := (gho_inj (ho'.symm.trans hw)).1; omega
        | send z hw => have := (gho_inj (ho'.symm.trans hw)).1; omega
        | close hw => have := (gho_inj (ho'.symm.trans hw)).1; omega
        | disW hw => have := (gho_inj (ho'.symm.trans hw)).1; omega
        | load hw => have := (gho_inj (ho'.symm.trans hw)).1; omega
        | cas hw => have := (gho_inj (ho'.symm.trans hw)).1; omega
        | saidW hw => have := (gho_inj (ho'.symm.trans hw)).1; omega
        | acq hw => have := (gho_inj (ho'.symm.trans hw)).1; omega
        | load0 hw => have := (gho_inj (ho'.symm.trans hw)).1; omega
        | enW hw => have := (gho_inj (ho'.symm.trans hw)).1; omega
        | joined hw => have := (gho_inj (ho'.symm.trans hw)).1; omega
  · exact ((h.leave (fun g hg => h.run0 hg) (by omega) hg hrun).mono fun _ _ _ q => .inl q).out

/-- Nobody sleeps; somebody runs. -/
theorem PI.awake (hp : PhOk ph) {Z : Goroutine → World → Prop} (hZ : ∀ g w, Z g w → w.output = gho 17 0 0) (h : PI P ph B' Z dead ws Bs k0 gs W t E a b c bl S cs st sm ρ L) :
    (∀ g ∈ gs, Go.Conc.awake g) ∧ ∃ (i : Nat) (g : Goroutine), gs[i]? = some g ∧ g.status = .running := by
  have k1 := h.k1
  have hsz := h.sz
  obtain ⟨g0, hg0, hm0⟩ := h.mn
  have hst0 : g0.status = .running ∨ g0.status = .blocked := by
    cases hm0 with
    | run h1 h2 =>
      rcases h2.cases with hh | hh | hh
      · have := hZ _ _ (hh _ (Push.refl _)); rw [h1] at this; have := (gho_inj this).1; have := le16 h.ok; omega
      · exact .inl hh.1
      · exact .inl hh.1
    | send => exact .inr rfl
    | sema => exact .inr rfl
  refine ⟨fun g hg tm hs => ?_, ?_⟩
  · obtain ⟨i, hi⟩ := Array.mem_iff_getElem?.1 hg
    have hlt : i < gs.size := (Array.getElem?_eq_some_iff.1 hi).1
    by_cases e0 : i = 0
    · subst e0; rw [hg0] at hi; cases hi
      rcases hst0 with h | h <;> rw [h] at hs <;> cases hs
    · rcases Nat.lt_or_ge i k0 with hl | hge
      · obtain ⟨g1, q, e1, e2, _⟩ := h.lv i (by omega) hl
        rw [hi] at e1; cases e1
        rcases e2.status with h | h <;> rw [h] at hs <;> cases hs
      · obtain ⟨g1, m, e1, e2, _⟩ := h.wk (i - k0) (by omega)
        rw [show k0 + (i - k0) = i by omega, hi] at e1; cases e1
        rcases e2.status with h | h | h
        · rw [h] at hs; cases hs
        · rw [h] at hs; cases hs
        · rw [h.1] at hs; cases hs
  · rcases hst0 with hr | hb
    · exact ⟨0, g0, hg0, hr⟩
    · cases hm0 with
      | run h1 h2 =>
        exfalso
        rcases h2.cases with hh | hh | hh
        · have := hZ _ _ (hh _ (Push.refl _)); rw [h1] at this; have := (gho_inj this).1; have := le16 h.ok; omega
        · rw [hh.1] at hb; cases hb
        · rw [hh.1] at hb; cases hb
      | send h1 h2 h3 =>
        obtain ⟨g1, m, e1, e2, _⟩ := h.wk 0 hp.n0
        have ho := h.opn rfl 0 hp.n0
        refine ⟨k0 + 0, g1, e1, ?_⟩
        generalize Deaf t (k0 + 0) = dd at e2
        generalize E 0 = ee at e2 ho
        cases e2 with
        | run q1 q2 q3 q4 => exact q3
        | wait q1 q2 q3 q4 => cases q4
        | try_ q1 q2 q3 => cases q3
        | lib q1 q2 q3 => simp only at ho; omega
      | sema h1 h2 h3 h4 =>
        have hmode := h.mode
        have hcnt : ∀ x, x < ph.n → (wds E x).stage ≠ 1 → ∃ (i : Nat) (g : Goroutine), gs[i]? = some g ∧ g.status = .running := by
          intro x hx hs1
          obtain ⟨g1, m, e1, e2, _⟩ := h.wk x hx
          refine ⟨k0 + x, g1, e1, ?_⟩
          unfold wds at hs1; simp only at hs1
          generalize Deaf t (k0 + x) = dd at e2
          generalize E x = ee at e2 hs1
          cases e2 with
          | run q1 q2 q3 q4 => exact q3
          | wait q1 q2 q3 q4 => cases q3
          | try_ q1 q2 q3 => rfl
          | lib q1 q2 q3 => exact @WSit.running_of ⟨ph.cty⟩ _ _ _ _ _ _ _ _ _ _ _ _ _ _ _ q3 (fun e => hs1 (by subst e; rfl))
        generalize hT : tagOf 13 0 2 = tag at hmode
        cases hmode with
        | opn q1 _ _ => subst hT; exact q1.elim
        | reg q1 q2 q3 =>
          obtain ⟨x, hx, h5⟩ := exists_counted q3
          exact hcnt x hx (by omega)
        | last L' q1 q2 q3 q4 => exact hcnt L' q2 (by omega)
        | sema q2 => cases hT
        | fin q1 _ => subst hT; exact q1.elim

/-- EVERY STEP OF THE MACHINE. -/
theorem step_all {Post : Value → World → Prop} (hQ : ∀ v w W, Q v w → Sees w W → Kept W → Post v W) (μ : Mz) (m : Machine) (t : Trace) (h : IAll P B0 (Ret P Q) μ m t) :
    (∃ o w ops, stepT P m = (.ended o w, ops) ∧ Good P Post m o w (t ++ ops)) ∨ (∃ m' ops μ', stepT P m = (.next m', ops) ∧ ltP μ' μ ∧ IAll P B0 (Ret P Q) μ' m' (t ++ ops)) := by
  have fin : ∀ {gs : Array Goroutine} {W : World} {sl sl' : Option (Nat × Nat)} {i d : Nat}, stepT P (crowd gs W sl) = runT P (crowd gs (W.at d) sl') i → Out P B0 Q gs (W.at d) sl' i t μ →
      (∃ o w ops, stepT P (crowd gs W sl) = (.ended o w, ops) ∧ Good P Post (crowd gs W sl) o w (t ++ ops)) ∨ (∃ m' ops μ', stepT P (crowd gs W sl) = (.next m', ops) ∧ ltP μ' μ ∧ IAll P B0 (Ret P Q) μ' m' (t ++ ops)) := by
    intro gs W sl sl' i d hst ho
    rw [hst]
    rcases ho with ho | ⟨v, w, h1, h2, h3, h4, h5, h6⟩
    · exact .inr ho
    · refine .inl ⟨_, _, _, h1, ?_⟩
      rw [show t ++ (#[] : Trace) = t by simp]
      refine ⟨v, rfl, hQ v w _ h2 h3.1 h3.2, h4, h5, ⟨fun g hg => ?_, rfl⟩, fun k g hg hk => ?_⟩
      · obtain ⟨k, hk⟩ := List.mem_iff_getElem?.1 hg
        rw [List.getElem?_drop] at hk
        obtain ⟨q, hq⟩ := h6 (1 + k) g (by simpa [crowd] using hk) (by omega)
        exact ⟨_, hq.leaves⟩
      · obtain ⟨q, hq⟩ := h6 k g (by simpa [crowd] using hg) hk
        exact ⟨q, hq.hears _⟩
  rcases h with ⟨gs, W, sl, dead, ws, Bs, L, mm, lg, rfl, hI, rfl⟩ | ⟨ph, B', K, dead, ρo, hp, hdo, hBB, hK, ws, Bs, k0, gs, W, sl, E, a, b, c, bl, S, cs, st, sm, ρ, L, rfl, hI, rfl⟩
  · have ha : ∀ g ∈ gs, Go.Conc.awake g := by
      intro g hg tm hs
      obtain ⟨i, hi⟩ := Array.mem_iff_getElem?.1 hg
      by_cases e0 : i = 0
      · subst e0; rw [hI.run0 hi] at hs; cases hs
      · obtain ⟨g1, q, e1, e2, _⟩ := hI.lv i (by omega) (Array.getElem?_eq_some_iff.1 hi).1
        rw [hi] at e1; cases e1
        rcases e2.status with h | h <;> rw [h] at hs <;> cases hs
    obtain ⟨g0, hg0, _⟩ := hI.mn
    obtain ⟨i, g, d, sl', hg, hr, hst⟩ := crowd_pick (P := P) (w := W) (sl := sl) ha ⟨0, g0, hg0, hI.run0 hg0⟩
    exact fin hst ((hI.drew d).step hg hr)
  · have hZ : ∀ g w, (w.output = gho 17 0 0 ∧ K g w) → w.output = gho 17 0 0 := fun _ _ q => q.1
    obtain ⟨ha, hs⟩ := hI.awake hp hZ
    obtain ⟨i, g, d, sl', hg, hr, hst⟩ := crowd_pick (P := P) (w := W) (sl := sl) ha hs
    have hI' := hI.drew d
    have up : ∀ μ m t, IPo P ph B' (fun g' w' => w'.output = gho 17 0 0 ∧ K g' w') dead ρo μ m t → IAll P B0 (Ret P Q) μ m t := fun μ m t q => .inr ⟨ph, B', K, dead, ρo, hp, hdo, hBB, hK, q⟩
    refine fin hst ?_
    have k1 := hI.k1
    by_cases h0 : i = 0
    · subst h0
      have hBW : B' ≤ (W.at d).heap.size := by have := hI'.grp.bs 0 (by have := hI.sz; omega); rw [hI'.b0] at this; exact this
      exact ((hI'.main hp hdo hBB hK hg hr hBW).mono fun μ m t q => q.elim .inl (up μ m t)).out
    · rcases Nat.lt_or_ge i k0 with hl | hge
      · exact ((hI'.leave hZ (by omega) hl hg hr).mono up).out
      · have hlt : i < gs.size := (Array.getElem?_eq_some_iff.1 hg).1
        have hx : i - k0 < jOf ph.n a b := by have := hI.sz; omega
        have e : k0 + (i - k0) = i := by omega
        rw [← e] at hg
        have := (hI'.work (sl := sl') (ρo := ρo) hp hZ hx hg hr).mono up
        rw [e] at this
        exact this.out
end

end Go.Tx
namespace Go
open Go.Tx in
/-- The starter's own view of the world at the beginning. -/
def World.own (w : World) : World := { w with heap := w.heap.map fun o => if isView o then poison else o, output := #[] }
end Go
namespace Go.Tx
open Go.Conc Go.ConcN
open Go.ConcR (KK wgBlock WgAt stA smA rd wr again_blocked g_of_ofEvents ofEvent_mk Bk bk_of_mute ofEvent_loc_mark)
variable [Old]
omit [Old] in
theorem own_size (w : World) : w.own.heap.size = w.heap.size := by simp [World.own]
omit [Old] in
theorem own_sees (w : World) : Sees w.own w := by
  have e : ∀ b : Nat, w.own.heap[b]? = (w.heap[b]?).map fun o => if isView o then poison else o := fun b => by simp [World.own]
  refine ⟨rfl, rfl, by rw [own_size]; exact Nat.le_refl _, fun b hb => ?_, fun b x hx => ?_⟩
  · rw [own_size] at hb
    have e' := e b
    rw [Array.getElem?_eq_getElem hb] at e' ⊢
    simp only [Option.map_some] at e'
    by_cases hv : isView w.heap[b] = true
    · left; unfold Psn; rw [e', if_pos hv]
    · right; rw [e', if_neg hv]
  · rw [e] at hx
    obtain ⟨y, _, rfl⟩ := Option.map_eq_some_iff.1 hx
    split
    · rfl
    · rename_i h; simpa using h

omit [Old] in
/-- An invariant with something that falls (a big type's) leads to the end. -/
theorem runs_out {P : Program} {r : Mz → Mz → Prop} (wf : WellFounded r) (I : Mz → Machine → Trace → Prop) (R : Machine → Outcome → World → Trace → Prop)
    (h : ∀ μ m t, I μ m t → (∃ o w ops, stepT P m = (.ended o w, ops) ∧ R m o w (t ++ ops)) ∨ (∃ m' ops μ', stepT P m = (.next m', ops) ∧ r μ' μ ∧ I μ' m' (t ++ ops))) (μ : Mz) :
    ∀ m t, I μ m t → ∃ n last o w t', runNT P (n + 1) m t = (.ended o w, t') ∧ runN P n m = .next last ∧ step P last = .ended o w ∧ R last o w t' := by
  refine wf.induction (C := fun μ => ∀ m t, I μ m t → ∃ n last o w t', runNT P (n + 1) m t = (.ended o w, t') ∧ runN P n m = .next last ∧ step P last = .ended o w ∧ R last o w t') μ fun μ ih m t hI => ?_
  cases h μ m t hI with
  | inl e =>
    obtain ⟨o, w, ops, hs, hr⟩ := e
    have hst : step P m = .ended o w := by simp [step, hs]
    exact ⟨0, m, o, w, _, by simp [runNT, hs], rfl, hst, hr⟩
  | inr e =>
    obtain ⟨m', ops, μ', hs, hlt, hI'⟩ := e
    obtain ⟨n, last, o, w, t', a1, a2, a3, a4⟩ := ih μ' hlt m' _ hI'
    exact ⟨n + 1, last, o, w, t', (runNT_succ_next hs _ _).trans a1, (runN_succ_next hs _).trans a2, a3, a4⟩

omit [Old] in
/-- FROM THE ENTRY TO THE RETURN, ON EVERY TAPE. -/
theorem company_run {P : Program} {Q : Value → World → Prop} {Post : Value → World → Prop} {g : Goroutine} {w : World} (hQ : ∀ v w' W, Q v w' → Sees w' W → W.output = w.output → (∀ c, c < w.heap.size → W.heap[c]? = w.heap[c]?) → Post v W)
    (h : Run1 P true w.heap.size (OAc P w.heap.size) (Ret P Q) g w.own) :
    ∃ N last o w' t', runNT P (N + 1) (solo g w) #[] = (.ended o w', t') ∧ runN P N (solo g w) = .next last ∧ step P last = .ended o w' ∧ Good P Post last o w' t' := by
  obtain ⟨ρ, hρ⟩ := h.rank
  letI : Old := ⟨w, w.heap.size⟩
  refine runs_out (r := ltP) Mz.wf.transGen (IAll P w.heap.size (Ret P Q)) (Good P Post) (step_all fun v w' W q1 q2 q3 => hQ v w' W q1 q2 q3.out q3.at_) ((ρ, (1, rk0)), ([], runs #[g])) (solo g w) #[] (.inl ⟨#[g], w, none, fun _ => False, fun _ => w.own, fun _ => w.heap.size, [], _, fun _ _ => False, rfl, ?_, rfl⟩)
  have hnt : ∀ (i : Nat) (op : MemOp), (#[] : Trace)[i]? ≠ some op := by intro i op; simp
  have hnt' : ∀ (i : Nat) (a : Touch), touchAt #[] i ≠ some a := by intro i a; simp [touchAt, Trace.act?]
  refine ⟨⟨⟨fun k hk => own_sees w, fun i j b hij hj hm hb => ?_, ⟨fun k b l _ _ i a ha => absurd ha (hnt' i a), fun k b l _ _ i a ha => absurd ha (hnt' i a), noRace_nil, fun op hop => by simp at hop⟩, ⟨rfl, Nat.le_refl _, fun _ _ => rfl⟩, fun k hk => Nat.le_refl _⟩, fun k hk => Nat.le_refl _, fun i gg hgi => by simp [Trace.g?] at hgi, fun i a ha => absurd ha (hnt' i a), fun b hb => hb.elim, fun i op hi => absurd hi (hnt i op)⟩, rfl, by simp, rfl, fun k h1 h2 => by simp at h2; omega, rfl, fun A i hi => by simp [Trace.act?] at hi, ⟨g, rfl, .out hρ⟩, fun ch hch => ?_, fun ty b hl => hl.elim⟩
  · have := hm.1; simp at this hj; omega
  · simp [World.own, gho] at hch
end Go.Tx
