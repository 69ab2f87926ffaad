/- The pool's machine, tenth part: outside the pools; a pool's end; every step of the starter's inside one. -/
import Derived.Test.YtngoijkcbmchdaaGreatDoorMi
set_option linter.unusedVariables false
set_option linter.unusedSimpArgs false
namespace Go.Tx
open Go.Conc Go.ConcN
open Go.ConcR (KK wgBlock WgAt stA smA rd wr again_blocked g_of_ofEvents ofEvent_mk Bk)
variable [Old]

/-- The starter outside the pools, or on its way out of one. -/
inductive OSt (P : Program) (B0 : Nat) (Zo : Goroutine → World → Prop) (lg : TypeId → Nat → Prop) : Goroutine → World → Mm → Prop
  | out {ρ : Rk} {g : Goroutine} {w : World} : RunR P true B0 (OAc P B0) Zo ρ g w → OSt P B0 Zo lg g w (ρ, (1, rk0))
  | tail {ρ ρ' : Rk} {ph : Ph} {B' : Nat} {K : Goroutine → World → Prop} {g : Goroutine} {w : World} : w.output = gho 17 0 0 → RunR P true B' (MAc P ph B') (fun g' w' => w'.output = gho 17 0 0 ∧ K g' w') ρ' g w → B0 ≤ B' → lg ph.tWg ph.Wg →
      (∀ g' w', K g' w' → ∃ ρ'', Rk.lt ρ'' ρ ∧ RunR P true B0 (OAc P B0) Zo ρ'' g' w') → OSt P B0 Zo lg g w (ρ, (0, ρ'))

structure SI (P : Program) (B0 : Nat) (Zo : Goroutine → World → Prop) (lg : TypeId → Nat → Prop) (dead : Nat → Prop) (ws : Nat → World) (Bs : Nat → Nat) (gs : Array Goroutine) (W : World) (t : Trace) (L : List Wm) (mm : Mm) : Prop where
  grp : Grp ws Bs gs.size gs.size W t dead
  b0 : Bs 0 = B0
  n1 : 0 < gs.size
  len : L.length + 1 = gs.size
  lv : Lvs P gs.size gs t L
  d0 : Deaf t 0 = 0
  nor : ∀ A, NoRelease A t
  mn : ∃ g, gs[0]? = some g ∧ OSt P B0 Zo lg g (ws 0) mm
  chn : ∀ ch, (ws 0).output = gho 30 ch 0 → (ch < W.heap.size ∧ Old.b ≤ ch) ∧ Hid ws gs.size ch ∧ (∃ tm, W.heap[ch]? = some (.chan 0 #[] false 0 0 tm)) ∧ ∀ i x, touchAt t i = some x → blk x.loc ≠ some ch
  wl : ∀ ty b, lg ty b → b < W.heap.size ∧ Hid ws gs.size b ∧ WgLive ty b W

def ISo (P : Program) (B0 : Nat) (Zo : Goroutine → World → Prop) (μ : Mz) (m : Machine) (t : Trace) : Prop :=
  ∃ gs W sl dead ws Bs L mm lg, m = crowd gs W sl ∧ SI P B0 Zo lg dead ws Bs gs W t L mm ∧ μ = (mm, (L, runs gs))

/-- The pool and what lies about it. -/
def IAll (P : Program) (B0 : Nat) (Zo : Goroutine → World → Prop) (μ : Mz) (m : Machine) (t : Trace) : Prop :=
  ISo P B0 Zo μ m t ∨ ∃ (ph : Ph) (B' : Nat) (K : Goroutine → World → Prop) (dead : Nat → Prop) (ρo : Rk), PhOk ph ∧ ¬ dead ph.ob ∧ (Old.b ≤ B0 ∧ B0 ≤ B') ∧ (∀ g' w', K g' w' → ∃ ρ'', Rk.lt ρ'' ρo ∧ RunR P true B0 (OAc P B0) Zo ρ'' g' w') ∧ IPo P ph B' (fun g' w' => w'.output = gho 17 0 0 ∧ K g' w') dead ρo μ m t

omit [Old] in
theorem Res.mono {P : Program} {gs : Array Goroutine} {W : World} {sl : Option (Nat × Nat)} {i : Nat} {t : Trace} {μ : Mz} {I J : Mz → Machine → Trace → Prop} (h : Res P gs W sl i t μ I) (hIJ : ∀ μ m t, I μ m t → J μ m t) : Res P gs W sl i t μ J :=
  let ⟨m', ops, μ', h1, h2, h3⟩ := h; ⟨m', ops, μ', h1, h2, hIJ _ _ _ h3⟩

omit [Old] in
theorem blk_mem {l : Loc} {b : Nat} (h : blk l = some b) : l.isMemory = true := by cases l <;> first | rfl | cases h
omit [Old] in
theorem stage_one {c : Nat} (h : stageOf c = 1) : c = 8 := by unfold stageOf at h; split at h <;> omega

section
variable {P : Program} {ph : Ph} {B0 B' : Nat} {Zo : Goroutine → World → Prop} {K : Goroutine → World → Prop} {lg : TypeId → Nat → Prop} {dead : Nat → Prop} {ws : Nat → World} {Bs : Nat → Nat} {k0 : Nat} {gs : Array Goroutine} {W W' : World} {sl : Option (Nat × Nat)} {t u : Trace}
  {E : Nat → Nat × Nat} {a b c bl : Nat} {S : Nat → Prop} {cs : Array Value} {st sm : Int} {ρ ρo : Rk} {L : List Wm}

/-- THE STARTER HAS WAITED: all is handed over; the results are its own. -/
theorem PI.join (hp : PhOk ph) (hdo : ¬ dead ph.ob) (hBB : Old.b ≤ B0 ∧ B0 ≤ B') {Z : Goroutine → World → Prop} (h : PI P ph B' Z dead ws Bs k0 gs W t E 16 0 0 0 S cs st sm ρ L) {g g' : Goroutine} {ρ' : Rk} (hZ : Z = fun g' w' => w'.output = gho 17 0 0 ∧ K g' w')
    (hK : ∀ g' w', K g' w' → ∃ ρ'', Rk.lt ρ'' ρo ∧ RunR P true B0 (OAc P B0) Zo ρ'' g' w') (hg : gs[0]? = some g) (hgo : stepG P true g W = .go g' W #[Go.ConcR.mk (.acquire (stA ph.Wg))]) (hlt : Rk.lt ρ' ρ)
    (hR : RunR P true B' (MAc P ph B') Z ρ' g' { World.upto (ws 0) W with heap := (World.upto (ws 0) W).heap.setIfInBounds ph.ob (.cells (allOf ph.F ph.N) ph.ety), output := gho 17 0 0 }) :
    Res P gs W sl 0 t ((ρo, (0, ρ)), (L, runs gs)) (ISo P B0 Zo) := by
  have k1 := h.k1
  have hsz := h.sz
  have ej : jOf ph.n 16 0 = ph.n := rfl
  rw [ej] at hsz
  have h0 : 0 < gs.size := by omega
  have hS := h.grp.team.sees 0 h0
  have hus := upto_size hS.size
  have hrun := runT_crowd_go (P := P) (sl := sl) (i := 0) hg (by simpa using hgo)
  have hops : MemOp.ofEvents 0 g.frame.fn g.frame.place #[Go.ConcR.mk (.acquire (stA ph.Wg))] = #[{ g := 0, fn := g.frame.fn, pos := g.frame.place, act := .mark (.acquire (stA ph.Wg)) }] := by rw [ofEvents_eq]; simp [ofEvent_mk]
  rw [hops] at hrun
  let y : MemOp := { g := 0, fn := g.frame.fn, pos := g.frame.place, act := .mark (.acquire (stA ph.Wg)) }
  have hrun' : runT P (crowd gs W sl) 0 = (.next (crowd ((gs.map (woken P g g' W)).setIfInBounds 0 g') W sl), #[y]) := hrun
  clear hrun
  have hy : (t ++ #[y])[t.size]? = some y := by simp
  have hnt : ∀ op ∈ #[y], op.act.touch? = none := by intro op hop; simp at hop; subst hop; rfl
  have hstill : ∀ k, Deaf (t ++ #[y]) k = Deaf t k := fun k => Deaf_still t k _ fun op hop => by simp at hop; subst hop; simp [y]
  -- everybody is leaving
  obtain ⟨hq, hst0, hsm0⟩ := h.mode.fin_inv (by rw [show tagOf 16 0 0 = .acq from rfl]; trivial)
  rw [ej] at hq
  have hE8 : ∀ x, x < ph.n → (E x).1 = 8 := fun x hx => stage_one (hq x hx)
  have hall : cs = allOf ph.F ph.N := by
    have hj := h.jobs
    rw [ej] at hj
    exact hj.all hp fun x hx => by rw [hE8 x hx]; decide
  have hlv : ∀ k, 1 ≤ k → k < gs.size → ∃ g q, gs[k]? = some g ∧ QuitsD P q (Deaf t k) g ∧ L[k - 1]? = some (1, (rk0, q)) := by
    intro k h1 h2
    rcases Nat.lt_or_ge k k0 with hl | hge
    · exact h.lv k h1 hl
    · obtain ⟨g1, m, e1, e2, e3⟩ := h.wk (k - k0) (by rw [ej]; omega)
      have ek : k0 + (k - k0) = k := by omega
      rw [ek] at e1 e2 e3
      have h8 := hE8 (k - k0) (by omega)
      generalize E (k - k0) = ee at e2 h8
      generalize hd : Deaf t k = dd at e2
      cases e2 with
      | run q1 q2 q3 q4 => simp only at h8; omega
      | wait q1 q2 q3 q4 => simp at h8
      | try_ q1 q2 q3 => simp at h8
      | lib q1 q2 q3 =>
        simp only at h8
        rename_i s f _
        obtain rfl : s = 1 := by omega
        cases q3 with
        | quit hq => exact ⟨g1, f, e1, hq, e3⟩
  have hrel : ∀ x, x < ph.n → ∃ r, RelBy (stA ph.Wg) t (k0 + x) r := fun x hx => h.rel x (by rw [ej]; exact hx) (by rw [hE8 x hx]; decide)
  have d0 : Deaf t 0 = 0 := h.d0
  -- what counts is known
  have hknow : ∀ i gg, (t ++ #[y]).g? i = some gg → gg ≠ 0 → (t ++ #[y]).counts i → Knows (t ++ #[y]) 0 i := by
    intro i gg hgi hne hc
    rcases g_app hgi with hgo' | ⟨hge, op, hop, rfl, ho⟩
    · have hi : i < t.size := by
        obtain ⟨op, ho, _⟩ := Option.map_eq_some_iff.1 hgo'
        exact lt_size_of_getElem? ho
      have hc' := (counts_old hi).1 hc
      rcases Nat.lt_or_ge gg k0 with hl | hgk
      · exact (h.grp.hand i gg hgo' hne hl hc').app _
      · have hgl : gg < gs.size := by
          obtain ⟨op, ho, rfl⟩ := Option.map_eq_some_iff.1 hgo'
          exact h.grp.gsz i op ho
        obtain ⟨r, hr⟩ := hrel (gg - k0) (by omega)
        rw [show k0 + (gg - k0) = gg by omega] at hr
        have hrt : r < t.size := lt_of_act? hr.act
        have edge : HappensBefore (t ++ #[y]) r t.size := .single (.inr ⟨.marked (a := stA ph.Wg) hrt (.inr (by rw [act?_old hrt]; exact hr.act)) (by rw [act?_of hy]) (fun k _ _ hk => by
          rcases Nat.lt_or_ge k t.size with hl | hge
          · rw [act?_old hl] at hk; exact h.tch.nor _ k hk
          · have := lt_of_act? hk; simp at this
            obtain rfl : k = t.size := by omega
            rw [act?_of hy] at hk; simp [y] at hk), (heard_old hrt).2 hr.heard, ⟨0, by simp [Trace.g?, y], by rw [deaf_old (Nat.le_refl _)]; exact d0⟩⟩)
        have hle : i ≤ r := Nat.le_of_not_lt fun hlt => hr.after i hlt hgo' hc'
        refine ⟨t.size, y, hy, rfl, .inr ?_⟩
        rcases Nat.lt_or_ge i r with hlt | hge
        · exact .trans (.single (.inl ⟨hlt, gg, by rw [g?_old hi]; exact hgo', by rw [g?_old hrt]; exact hr.g⟩)) edge
        · obtain rfl : i = r := by omega
          exact edge
    · simp at hop; subst hop; exact absurd rfl hne
  -- the new views
  let w' : World := { World.upto (ws 0) W with heap := (World.upto (ws 0) W).heap.setIfInBounds ph.ob (.cells (allOf ph.F ph.N) ph.ety), output := gho 17 0 0 }
  let wE : World := { W with heap := #[] }
  let ws' : Nat → World := upd (fun _ => wE) 0 w'
  have wsz : w'.heap.size = W.heap.size := by show ((World.upto (ws 0) W).heap.setIfInBounds _ _).size = _; rw [Array.size_setIfInBounds, hus]
  have wat : ∀ bb, bb ≠ ph.ob → w'.heap[bb]? = (World.upto (ws 0) W).heap[bb]? := fun bb hb => by show ((World.upto (ws 0) W).heap.setIfInBounds _ _)[bb]? = _; rw [Array.getElem?_setIfInBounds_ne (Ne.symm hb)]
  have wob : w'.heap[ph.ob]? = W.heap[ph.ob]? := by
    show ((World.upto (ws 0) W).heap.setIfInBounds _ _)[ph.ob]? = _
    rw [Array.getElem?_setIfInBounds_self_of_lt (by rw [hus]; exact h.hob.1), h.wOb, hall]
  have hS' : Sees w' W := by
    refine ⟨hS.os, hS.tape, by rw [wsz]; exact Nat.le_refl _, fun bb hb => ?_, fun bb o ho => ?_⟩
    · by_cases e : bb = ph.ob
      · subst e; exact .inr wob.symm
      · by_cases hq : Psn (World.upto (ws 0) W) bb
        · left; unfold Psn; rw [wat bb e]; exact hq
        · right; rw [wat bb e]; exact hS.over.same bb hq
    · by_cases e : bb = ph.ob
      · subst e; rw [wob, h.wOb] at ho; cases ho; rfl
      · rw [wat bb e] at ho; exact hS.noView bb o ho
  have ws0 : ws' 0 = w' := upd_same _ _ _
  have wsk : ∀ k, k ≠ 0 → ws' k = wE := fun k hk => upd_ne _ _ hk
  have hdead : ∀ bb, deadOf ph dead bb → bb ≠ ph.ob := by
    rintro bb (q | rfl | rfl)
    · rintro rfl; exact hdo q
    · exact hp.wo
    · exact hp.co
  have hHid : ∀ bb, deadOf ph dead bb → Hid ws' gs.size bb := by
    intro bb hb k hk hbk
    by_cases e : k = 0
    · subst e
      rw [ws0] at hbk ⊢
      unfold Psn; rw [wat bb (hdead bb hb)]
      rw [wsz] at hbk
      rcases Nat.lt_or_ge bb (ws 0).heap.size with hl | hge
      · rw [upto_old hl]; exact (h.grp.hid bb hb).2 0 h0 hl
      · exact upto_new hge hbk
    · rw [wsk k e] at hbk; simp [wE] at hbk
  have hperm : ∀ bb l, bb < W.heap.size → ¬ Psn w' bb → blk l = some bb → Perm (t ++ #[y]) 0 l := by
    intro bb l hbb hnp hl i aa ha hla
    obtain ⟨op, ho, hoa⟩ := touch_of ha
    by_cases hg0 : op.g = 0
    · have := knows_own ho; rwa [hg0] at this
    · refine hknow i op.g (by rw [Trace.g?, ho]; rfl) hg0 ⟨aa, ha, by rw [hla]; exact blk_mem hl, .inl ?_⟩
      have hpl : aa.kind = .plain := by
        cases hkd : aa.kind with
        | plain => rfl
        | _ =>
          exfalso
          rcases touch_app ha with ⟨_, ha'⟩ | ⟨op', hop', _, hx⟩
          · obtain ⟨b2, e1, e2⟩ := h.grp.np i aa ha' (by rw [hkd]; simp)
            rw [hla, hl] at e1; cases e1
            have := hHid bb e2 0 h0 (by rw [ws0, wsz]; exact hbb)
            rw [ws0] at this; exact hnp this
          · rw [hnt op' hop'] at hx; cases hx
      rw [hpl]; simp
  have hTeam : Team ws' (upd Bs 0 B0) gs.size W (t ++ #[y]) := by
    refine ⟨fun k hk => ?_, fun i k bb hik hk hm hb => ?_, ⟨fun k bb l hm hl => ?_, fun k bb l hm hl => ?_, fun said => ?_, fun op hop z bb hz hb => ?_⟩, h.grp.team.old, fun k hk => ?_⟩
    · by_cases e : k = 0
      · subst e; rw [ws0]; exact hS'
      · rw [wsk k e]; exact ⟨rfl, rfl, Nat.zero_le _, fun bb hb => by simp [wE] at hb, fun bb o ho => by simp [wE] at ho⟩
    · by_cases e : k = 0
      · have hi : i ≠ 0 := fun e' => hik (by rw [e', e])
        have := hm.2.2.1; rw [wsk i hi] at this; simp [wE] at this
      · rw [wsk k e] at hb; simp [wE] at hb
    · by_cases e : k = 0
      · subst e
        have m2 := hm.2.2.1; have m3 := hm.2.2.2
        rw [ws0] at m2 m3
        exact hperm bb l (by rw [← wsz]; exact m2) m3 hl
      · have := hm.2.2.1; rw [wsk k e] at this; simp [wE] at this
    · by_cases e : k = 0
      · subst e
        have m2 := hm.2.2.1; have m3 := hm.2.2.2
        rw [ws0] at m2 m3
        exact PermW.of (hperm bb l (by rw [← wsz]; exact m2) m3 hl)
      · have := hm.2.2.1; rw [wsk k e] at this; simp [wE] at this
    · have := noTouch_app (h.grp.team.tr.nr said) [y] (by simpa using hnt); simpa using this
    · rcases Array.mem_append.1 hop with hop | hop
      · exact h.grp.team.tr.low op hop z bb hz hb
      · rw [hnt op hop] at hz; cases hz
    · by_cases e : k = 0
      · subst e; rw [upd_same]; exact hBB.1
      · rw [upd_ne _ _ e]; exact h.grp.team.lo k hk
  have hgs : ∀ k, k ≠ 0 → ((gs.map (woken P g g' W)).setIfInBounds 0 g')[k]? = (gs[k]?).map (woken P g g' W) := fun k hk => get_map_set _ _ _ _ (Ne.symm hk)
  have hsz' : ((gs.map (woken P g g' W)).setIfInBounds 0 g').size = gs.size := by simp
  refine ⟨_, _, ((ρo, (0, ρ')), (L, runs _)), hrun', Mz.main (.right _ (.right _ hlt)) _ _, _, W, sl, deadOf ph dead, ws', upd Bs 0 B0, L, (ρo, (0, ρ')), fun ty b => ty = ph.tWg ∧ b = ph.Wg, rfl, ?_, rfl⟩
  refine ⟨?_, upd_same _ _ _, by rw [hsz']; exact h0, by rw [hsz']; exact h.len, fun k q1 q2 => ?_, by rw [hstill]; exact d0, fun A => (h.tch.nor A).app fun op hop => by simp at hop; subst hop; simp [y], ⟨g', get_map_set_same _ _ _ h0, ?_⟩, fun ch hch => ?_, fun ty b hl => ?_⟩
  · rw [hsz']
    refine ⟨hTeam, fun k hk => ?_, fun i gg hgi hne _ hc => hknow i gg hgi hne hc, fun i aa ha hk => ?_, fun bb hb => ⟨(h.grp.hid bb hb).1, hHid bb hb⟩, fun i op hi => ?_⟩
    · by_cases e : k = 0
      · subst e; rw [upd_same]; have := h.grp.bs 0 h0; rw [h.b0] at this; omega
      · rw [upd_ne _ _ e]; exact h.grp.bs k hk
    · rcases touch_app ha with ⟨_, ha'⟩ | ⟨op, hop, _, hz⟩
      · exact h.grp.np i aa ha' hk
      · rw [hnt op hop] at hz; cases hz
    · rcases getElem?_append_cases hi with ⟨_, hi'⟩ | ⟨_, hiu⟩
      · exact h.grp.gsz i op hi'
      · simp at hiu; subst hiu; exact h0
  · rw [hsz'] at q2
    obtain ⟨g1, q, e1, e2, e3⟩ := hlv k q1 q2
    exact ⟨g1, q, by rw [hgs k (by omega), e1, Option.map_some, woken_quitsD e2], by rw [hstill]; exact e2, e3⟩
  · rw [ws0]
    subst hZ
    exact .tail rfl hR hBB.2 ⟨rfl, rfl⟩ hK
  · rw [ws0] at hch; have := (gho_inj (show gho 17 0 0 = gho 30 ch 0 from hch)).1; omega
  · obtain ⟨rfl, rfl⟩ := hl
    rw [hsz']
    exact ⟨(h.grp.hid ph.Wg (.inr (.inl rfl))).1, hHid _ (.inr (.inl rfl)), ⟨st, sm, h.wWg⟩⟩

set_option maxHeartbeats 1600000 in
/-- WHATEVER STEP OF THE STARTER's INSIDE THE POOL. -/
theorem PI.main (hp : PhOk ph) (hdo : ¬ dead ph.ob) (hBB : Old.b ≤ B0 ∧ B0 ≤ B') (h : PI P ph B' (fun g' w' => w'.output = gho 17 0 0 ∧ K g' w') dead ws Bs k0 gs W t E a b c bl S cs st sm ρ L) {g : Goroutine}
    (hK : ∀ g' w', K g' w' → ∃ ρ'', Rk.lt ρ'' ρo ∧ RunR P true B0 (OAc P B0) Zo ρ'' g' w') (hg : gs[0]? = some g) (hrun : g.status = .running) (hBW : B' ≤ W.heap.size) :
    Res P gs W sl 0 t ((ρo, (0, ρ)), (L, runs gs)) (fun μ m t => ISo P B0 Zo μ m t ∨ IPo P ph B' (fun g' w' => w'.output = gho 17 0 0 ∧ K g' w') dead ρo μ m t) := by
  have k1 := h.k1
  have hsz := h.sz
  have h0 : 0 < gs.size := by omega
  have h16 := le16 h.ok
  obtain ⟨g1, e1, hm⟩ := h.mn
  rw [hg] at e1; cases e1
  have hS := h.grp.team.sees 0 h0
  have hO := hS.over
  have hpu := hS.push
  have hnv := hS.noView
  have hlive : WgLive ph.tWg ph.Wg W := ⟨st, sm, h.wWg⟩
  cases hm with
  | send => simp [parked] at hrun
  | sema h1 h2 h3 h4 => simp at hrun
  | run h2 h4 =>
    rcases h4.cases with hz | ⟨_, hs⟩ | ⟨_, ha⟩
    · have := (hz _ (Push.refl _)).1; rw [h2] at this; have := (gho_inj this).1; omega
    · refine Res.mono (I := IPo P ph B' (fun g' w' => w'.output = gho 17 0 0 ∧ K g' w') dead ρo) ?_ (fun _ _ _ q => .inr q)
      obtain ⟨ρ', g', w', es, hlt, hT, hv, hR⟩ := hs _ hpu hnv
      have hT' : Tr P true (Bs 0) g (World.upto (ws 0) W) g' w' es := by rw [h.b0]; exact hT
      obtain ⟨W', hgo, hG, hle, hhid, hlow, hops, hdm⟩ := h.grp.step (fn := g.frame.fn) (pos := g.frame.place) h0 (.inl rfl) hT' hv
      have hWg := h.grp.hid ph.Wg (.inr (.inl rfl))
      have hCh := h.grp.hid ph.ch (.inr (.inr rfl))
      have hCs : ph.C < W.heap.size := (Array.getElem?_eq_some_iff.1 h.cC.2).1
      refine h.mainGo (a' := a) (b' := b) (c' := c) (bl' := 0) (st' := st) (sm' := sm) (ρ' := ρ') hg hgo rfl rfl rfl rfl hG ⟨by have := h.hob.1; omega, (hhid _ h.hob.1 h.hob.2).2⟩ ((hlow _ hCs (by rw [h.b0]; exact h.cC.1)).trans h.cC.2) (h.wWg.of_block (hhid _ hWg.1 hWg.2).1) (hhid _ hCh.1 hCh.2).1 (hhid _ h.hob.1 h.hob.2).1
        (.run (hT.1.2.2.trans h2) hR) h.ok (by rw [deafBehind_idle hdm]; exact h.d0) h.mode h.vb ?_ (.inl hlt)
      refine h.tch.app (fun _ x => x) (fun op hop => ?_) fun op hop y hy => ?_
      · rcases (hops op hop).2 with e | ⟨y, b', _, _, _, _, e, he⟩
        · rw [e]; simp
        · rw [he]; simp
      · rcases (hops op hop).2 with e | ⟨y', b', hy', hpl, hbk, hnh, _⟩
        · rw [e] at hy; cases hy
        · rw [hy'] at hy; cases hy
          refine ⟨fun hb => ?_, fun hb => ?_, fun hb => ?_⟩
          · rw [hbk] at hb; cases hb; exact absurd hWg.2 (hnh hWg.1)
          · rw [hbk] at hb; cases hb; exact absurd h.hob.2 (hnh h.hob.1)
          · rw [hbk] at hb; cases hb; exact absurd hCh.2 (hnh hCh.1)
    · obtain ⟨KK', hK', hcont⟩ := ha _ hpu hnv
      have pool : Res P gs W sl 0 t ((ρo, (0, ρ)), (L, runs gs)) (IPo P ph B' (fun g' w' => w'.output = gho 17 0 0 ∧ K g' w') dead ρo) → Res P gs W sl 0 t ((ρo, (0, ρ)), (L, runs gs)) (fun μ m t => ISo P B0 Zo μ m t ∨ IPo P ph B' (fun g' w' => w'.output = gho 17 0 0 ∧ K g' w') dead ρo μ m t) :=
        fun q => q.mono fun _ _ _ x => .inr x
      have opn : ∀ {a b : Nat}, a ≤ 3 → clOf a = false := fun q => by unfold clOf; simp; omega
      cases hK' with
      | idle hw hle hdo =>
        obtain ⟨rfl, rfl, rfl⟩ := gho_inj (h2.symm.trans hw)
        obtain ⟨g', hgo, hk'⟩ := hdo W hO hlive trivial
        obtain ⟨ρ', hlt, hR⟩ := hcont _ _ hk'
        exact pool (h.mainBook hp hg hgo (.refl ph.Wg W) h.wWg (by simp) (by rw [say_same hw]; exact hR) hlt rfl rfl rfl h.ok h.d0 h.mode h.vb)
      | dis hw hj hdo =>
        obtain ⟨rfl, rfl, rfl⟩ := gho_inj (h2.symm.trans hw)
        obtain ⟨g', hgo, hk'⟩ := hdo W hO hlive trivial
        obtain ⟨ρ', hlt, hR⟩ := hcont _ _ hk'
        exact pool (h.mainBook hp hg hgo (.refl ph.Wg W) h.wWg (by intro e he; simp at he; subst he; exact evG_mk rfl (by simp)) hR hlt rfl rfl rfl (.inr (.inl ⟨by omega, by omega, hj, rfl⟩)) (by rw [h.d0]; rfl) h.mode (fun q => by omega))
      | add hw hdo =>
        obtain ⟨rfl, rfl, rfl⟩ := gho_inj (h2.symm.trans hw)
        obtain ⟨ho, hst, hsm, _⟩ := h.mode.open_inv (by rw [show tagOf 1 b 0 = .kd from rfl]; trivial)
        have hV : Vc b (wds E) = b := vc_all E fun x hx => by have := h.opn rfl x hx; omega
        rw [show jOf ph.n 1 b = b from rfl, hV] at hst
        obtain ⟨g', hgo, hk'⟩ := hdo W hO hlive (by have := h.wWg; rw [hst, hsm] at this; simpa [pend, tagOf] using this)
        obtain ⟨ρ', hlt, hR⟩ := hcont _ _ hk'
        have hok : b < ph.n := by have := h.ok; unfold OkG at this; omega
        refine pool (h.mainBook (a' := 2) (b' := b) (c' := 0) (sm' := 0) hp hg hgo (aside_setCell W (stA ph.Wg) _) (by have := h.wWg; rw [hsm] at this; exact this.setSt _) (evG_rw ph) hR hlt rfl rfl rfl (.inr (.inl ⟨by omega, by omega, hok, rfl⟩)) (by rw [h.d0]; rfl) ?_ (fun q => by omega))
        have e : ((b : Int) + 1) * KK = ((Vc (jOf ph.n 1 b) (wds E) + pend (tagOf 2 b 0) : Nat) : Int) * KK := by rw [show jOf ph.n 1 b = b from rfl, hV]; simp [pend, tagOf]
        rw [e]
        exact .opn trivial ho (fun vs ev => by cases ev)
      | said hw hdo =>
        obtain ⟨rfl, rfl, rfl⟩ := gho_inj (h2.symm.trans hw)
        obtain ⟨g', hgo, hk'⟩ := hdo W hO hlive trivial
        obtain ⟨ρ', hlt, hR⟩ := hcont _ _ hk'
        exact pool (h.mainBook hp hg hgo (.refl ph.Wg W) h.wWg (by intro e he; simp at he; subst he; exact evG_rdSaid ph) (by rw [say_same hw]; exact hR) hlt rfl rfl rfl h.ok (by rw [h.d0]; rfl) h.mode h.vb)
      | en hw hdo =>
        obtain ⟨rfl, rfl, rfl⟩ := gho_inj (h2.symm.trans hw)
        obtain ⟨g', hgo, hk'⟩ := hdo W hO hlive trivial
        obtain ⟨ρ', hlt, hR⟩ := hcont _ _ hk'
        have hok : b < ph.n := by have := h.ok; unfold OkG at this; omega
        exact pool (h.mainBook hp hg hgo (.refl ph.Wg W) h.wWg (by intro e he; simp at he; subst he; exact evG_mk rfl (by simp)) hR hlt rfl rfl rfl (.inr (.inl ⟨by omega, by omega, hok, rfl⟩)) (by rw [h.d0]; rfl) h.mode (fun q => by omega))
      | go hw hdo =>
        obtain ⟨rfl, rfl, rfl⟩ := gho_inj (h2.symm.trans hw)
        obtain ⟨g', child, hgo, hrc, hk'⟩ := hdo W hO
        obtain ⟨ρ', hlt, hR⟩ := hcont _ _ hk'
        exact pool (h.spawn hp hg hgo hBW hrc hR hlt)
      | send z hw hi hdo hk' =>
        obtain ⟨rfl, rfl, rfl⟩ := gho_inj (h2.symm.trans hw)
        obtain ⟨ρ', hlt, hR⟩ := hcont _ _ hk'
        exact pool (h.send hp hg hrun hi (hdo W hO) hlt hR)
      | close hw hmw hdo =>
        obtain ⟨rfl, rfl, rfl⟩ := gho_inj (h2.symm.trans hw)
        obtain ⟨s, tm, hch⟩ := h.wCh
        obtain ⟨g', hgo, hs', hk'⟩ := hdo W s s tm hO hch
        obtain ⟨ρ', hlt, hR⟩ := hcont _ _ hk'
        exact pool (h.close hp hg hch hgo hmw hs' hlt hR)
      | disW hw hdo =>
        obtain ⟨rfl, rfl, rfl⟩ := gho_inj (h2.symm.trans hw)
        obtain ⟨g', hgo, hk'⟩ := hdo W hO hlive trivial
        obtain ⟨ρ', hlt, hR⟩ := hcont _ _ hk'
        exact pool (h.mainBook hp hg hgo (.refl ph.Wg W) h.wWg (by intro e he; simp at he; subst he; exact evG_mk rfl (by simp)) hR hlt rfl rfl rfl (.inr (.inr ⟨by omega, by omega, rfl⟩)) (by rw [h.d0]; rfl) (h.mode.reopen trivial trivial rfl (fun vs ev => by cases ev)) (fun _ => Vc_le _ _))
      | load hw hdo =>
        obtain ⟨rfl, rfl, rfl⟩ := gho_inj (h2.symm.trans hw)
        obtain ⟨ho, hst, hsm, _⟩ := h.mode.open_inv (by rw [show tagOf 11 b 0 = .anch from rfl]; trivial)
        have hvb := h.vb rfl
        rw [show jOf ph.n 11 b = ph.n from rfl] at hst hvb ho
        have hwg := h.wWg
        rw [hst, hsm] at hwg
        obtain ⟨g', hgo, hk0, hk1⟩ := hdo _ hvb W hO hlive (by simpa [pend, tagOf] using hwg)
        by_cases hv : Vc ph.n (wds E) = 0
        · obtain ⟨ρ', hlt, hR⟩ := hcont _ _ (hk0 hv)
          refine pool (h.mainBook (a' := 14) (b' := 0) (c' := 0) (st' := st) (sm' := sm) hp hg hgo (.refl ph.Wg W) h.wWg (evG_rd ph) hR hlt rfl rfl rfl (.inr (.inr ⟨by omega, by omega, rfl⟩)) (by rw [h.d0]; rfl) ?_ (fun q => by omega))
          rw [hst, hsm]
          have e : ((Vc ph.n (wds E) + pend (tagOf 11 b 0) : Nat) : Int) * KK = 0 := by rw [hv]; simp [pend, tagOf]
          rw [e]
          exact .fin trivial (allQuit_of ho hv)
        · obtain ⟨ρ', hlt, hR⟩ := hcont _ _ (hk1 hv)
          exact pool (h.mainBook (a' := 12) (b' := Vc ph.n (wds E)) (c' := 0) (st' := st) (sm' := sm) hp hg hgo (.refl ph.Wg W) h.wWg (evG_rd ph) hR hlt rfl rfl rfl (.inr (.inr ⟨by omega, by omega, rfl⟩)) (by rw [h.d0]; rfl)
            (h.mode.reopen (by rw [show tagOf 11 b 0 = .anch from rfl]; trivial) trivial rfl (fun vs ev => by
              have : Vc ph.n (wds E) = vs := by cases ev; rfl
              rw [show jOf ph.n 11 b = ph.n from rfl]; omega)) (fun q => by omega))
      | cas hw hit miss =>
        obtain ⟨rfl, rfl, rfl⟩ := gho_inj (h2.symm.trans hw)
        obtain ⟨ho, hst, hsm, hvs⟩ := h.mode.open_inv (by rw [show tagOf 12 b 0 = .w2 b from rfl]; trivial)
        obtain ⟨hle, hge1⟩ := hvs b rfl
        rw [show jOf ph.n 12 b = ph.n from rfl] at hst hle ho
        have hwg := h.wWg
        rw [hst, hsm] at hwg
        have hwg' : WgAt ph.tWg ph.Wg W ((Vc ph.n (wds E) : Int) * KK) 0 := by simpa [pend, tagOf] using hwg
        by_cases e : Vc ph.n (wds E) = b
        · obtain ⟨g', hgo, hk'⟩ := hit W hO hlive (by rw [← e]; exact hwg')
          obtain ⟨ρ', hlt, hR⟩ := hcont _ _ hk'
          refine pool (h.mainBook (a' := 13) (b' := 0) (c' := 0) (sm' := 0) hp hg hgo (aside_setCell W (stA ph.Wg) _) (hwg'.setSt _) (evG_rw ph) hR hlt rfl rfl rfl (.inr (.inr ⟨by omega, by omega, rfl⟩)) (by rw [h.d0]; rfl) ?_ (fun q => by omega))
          rw [← e]
          exact .reg trivial ho (by rw [show jOf ph.n 12 (Vc ph.n (wds E)) = ph.n from rfl]; omega)
        · obtain ⟨g', hgo, hk'⟩ := miss _ (by omega) W hO hlive hwg'
          obtain ⟨ρ', hlt, hR⟩ := hcont _ _ hk'
          exact pool (h.mainBook (a' := 11) (b' := Vc ph.n (wds E)) (c' := 0) (st' := st) (sm' := sm) hp hg hgo (.refl ph.Wg W) h.wWg (evG_rd ph) hR hlt rfl rfl rfl (.inr (.inr ⟨by omega, by omega, rfl⟩)) (by rw [h.d0]; rfl)
            (h.mode.reopen (by rw [show tagOf 12 b 0 = .w2 b from rfl]; trivial) trivial rfl (fun vs ev => by cases ev)) (fun _ => Nat.le_refl _))
      | saidW hw hdo =>
        obtain ⟨rfl, rfl, rfl⟩ := gho_inj (h2.symm.trans hw)
        obtain ⟨g', hgo, hk'⟩ := hdo W hO hlive trivial
        obtain ⟨ρ', hlt, hR⟩ := hcont _ _ hk'
        exact pool (h.mainBook hp hg hgo (.refl ph.Wg W) h.wWg (by intro e he; simp at he; subst he; exact evG_wrSaid ph) (by rw [say_same hw]; exact hR) hlt rfl rfl rfl h.ok (by rw [h.d0]; rfl) h.mode h.vb)
      | acq hw hof hb hdo =>
        obtain ⟨rfl, rfl, rfl⟩ := gho_inj (h2.symm.trans hw)
        have hmode := h.mode
        have block : sm = 0 → (∀ bl', bl' = 2 → ConcN.Mode (jOf ph.n 13 0) (wds E) (tagOf 13 0 bl') st sm) → Res P gs W sl 0 t ((ρo, (0, ρ)), (L, runs gs)) (IPo P ph B' (fun g' w' => w'.output = gho 17 0 0 ∧ K g' w') dead ρo) := by
          intro hsm hmo
          have hwg := h.wWg
          rw [hsm] at hwg
          have hgo := hb W st hO hwg
          have hG := (h.grp.upto h0).evG (fn := g.frame.fn) (pos := g.frame.place) (es := #[]) h.tch h0 (.inl rfl) (by simp)
          refine h.mainGo (a' := 13) (b' := 0) (c' := 0) (bl' := 2) (st' := st) (sm' := sm) (ρ' := ρ) hg hgo rfl rfl rfl rfl hG ⟨h.hob.1, h.hob.2.review (upto_sub hS.size)⟩ h.cC.2 h.wWg rfl rfl (.sema hw hrun hof (h4.push hpu)) h.ok h.d0 (hmo 2 rfl) h.vb (h.tch.evG (k := 0) hp.wo (by simp)) (.inr ⟨rfl, ?_⟩)
          have ew : woken P g { g with status := .blocked } W = id := by funext o; simp [woken]
          rw [ew, Array.map_id]
          exact runs_park hg hrun (by simp)
        refine pool ?_
        generalize hT : tagOf 13 0 0 = tag at hmode
        cases hmode with
        | opn h1 _ _ => subst hT; exact h1.elim
        | reg q1 q2 q3 => exact block rfl fun bl' e => by subst e; exact .reg trivial q2 q3
        | last L' q1 q2 q3 q4 => exact block rfl fun bl' e => by subst e; exact .last L' trivial q2 q3 q4
        | sema q2 =>
          obtain ⟨g', hgo, hk'⟩ := hdo W hO hlive h.wWg
          obtain ⟨ρ', hlt, hR⟩ := hcont _ _ hk'
          exact h.mainBook (a' := 15) (b' := 0) (c' := 0) hp hg hgo (aside_setCell W (smA ph.Wg) _) (h.wWg.setSm 0) (evG_sem ph) hR hlt rfl rfl rfl (.inr (.inr ⟨by omega, by omega, rfl⟩)) (by rw [h.d0]; rfl) (.fin trivial q2) (fun q => by omega)
        | fin h1 _ => subst hT; exact h1.elim
      | load0 hw hdo =>
        obtain ⟨rfl, rfl, rfl⟩ := gho_inj (h2.symm.trans hw)
        obtain ⟨hq, hst, hsm⟩ := h.mode.fin_inv (by rw [show tagOf 15 0 0 = .w4 from rfl]; trivial)
        obtain ⟨g', hgo, hk'⟩ := hdo W hO hlive (by have := h.wWg; rw [hst, hsm] at this; exact this)
        obtain ⟨ρ', hlt, hR⟩ := hcont _ _ hk'
        exact pool (h.mainBook (a' := 14) (b' := 0) (c' := 0) (st' := st) (sm' := sm) hp hg hgo (.refl ph.Wg W) h.wWg (evG_rd ph) hR hlt rfl rfl rfl (.inr (.inr ⟨by omega, by omega, rfl⟩)) (by rw [h.d0]; rfl) (by rw [hst, hsm]; exact .fin trivial hq) (fun q => by omega))
      | enW hw hdo =>
        obtain ⟨rfl, rfl, rfl⟩ := gho_inj (h2.symm.trans hw)
        obtain ⟨hq, hst, hsm⟩ := h.mode.fin_inv (by rw [show tagOf 14 0 0 = .ke from rfl]; trivial)
        obtain ⟨g', hgo, hk'⟩ := hdo W hO hlive trivial
        obtain ⟨ρ', hlt, hR⟩ := hcont _ _ hk'
        exact pool (h.mainBook (a' := 16) (b' := 0) (c' := 0) (st' := st) (sm' := sm) hp hg hgo (.refl ph.Wg W) h.wWg (by intro e he; simp at he; subst he; exact evG_mk rfl (by simp)) hR hlt rfl rfl rfl (.inr (.inr ⟨by omega, by omega, rfl⟩)) (by rw [h.d0]; rfl) (by rw [hst, hsm]; exact .fin trivial hq) (fun q => by omega))
      | joined hw hdo' =>
        obtain ⟨rfl, rfl, rfl⟩ := gho_inj (h2.symm.trans hw)
        obtain ⟨g', hgo, hk'⟩ := hdo' W hO hlive trivial
        obtain ⟨ρ', hlt, hR⟩ := hcont _ _ hk'
        exact (h.join hp hdo hBB rfl hK hg hgo hlt hR).mono fun _ _ _ q => .inl q
end
end Go.Tx
