/- The pool's machine, seventh part: a worker's steps. -/
import Derived.Test.YtngoijkcbmchdaaGreatDoorMf
set_option linter.unusedVariables false
set_option linter.unusedSimpArgs false
namespace Go.Tx
open Go.Conc Go.ConcN
open Go.ConcR (KK wgBlock WgAt stA smA rd wr mk again_blocked g_of_ofEvents ofEvent_mk)
variable [Old]

omit [Old] in
theorem runs_park {gs : Array Goroutine} {k : Nat} {g g' : Goroutine} (hg : gs[k]? = some g) (hr : g.status = .running) (hn : g'.status ≠ .running) : runs (gs.setIfInBounds k g') < runs gs := by
  obtain ⟨hlt, rfl⟩ := Array.getElem?_eq_some_iff.1 hg
  unfold runs
  have hlt' : k < gs.toList.length := by simpa using hlt
  rw [Array.toList_setIfInBounds, List.countP_set hlt']
  have hp : (gs.toList[k].status == GoStatus.running) = true := by simp [hr]
  have hpos : 0 < gs.toList.countP (fun g => g.status == .running) := List.countP_pos_iff.2 ⟨gs.toList[k], List.getElem_mem _, hp⟩
  have hn' : (g'.status == GoStatus.running) = false := by cases h : g'.status <;> first | rfl | exact absurd h hn
  simp only [hp, hn', if_true, Bool.false_eq_true, if_false]
  omega

omit [Old] in
theorem runR_running {P : Program} {B : Nat} {Ac : Acs} {ρ : Rk} {g : Goroutine} {w : World} (h : RunR P false B Ac NoZ ρ g w) : g.status = .running := by
  rcases h.cases with h | h | h
  · exact (h w (Push.refl w)).elim
  · exact h.1
  · exact h.1

section
variable {P : Program} {ph : Ph} {B' : Nat} {Z : Goroutine → World → Prop} {dead : Nat → Prop} {ws : Nat → World} {Bs : Nat → Nat} {k0 : Nat} {gs : Array Goroutine} {W W' : World} {sl : Option (Nat × Nat)} {t u : Trace}
  {E : Nat → Nat × Nat} {a b c bl : Nat} {S : Nat → Prop} {cs : Array Value} {st sm : Int} {ρ ρo : Rk} {L : List Wm}

omit [Old] in
theorem upto_out (w W : World) : (World.upto w W).output = w.output := rfl

omit [Old] in
theorem wst_unsend {B dd : Nat} {e : Nat × Nat} {m : Wm} {g : Goroutine} {w : World} {snd : Bool} (h : WSt P ph B false snd dd e m g w W) (hs : snd = true ∨ snd = false) : WSt P ph B false false dd e m g w W := by
  cases h with
  | run h1 h2 h3 h4 => exact .run h1 h2 h3 h4
  | wait h1 h2 h3 h4 => exact .wait h1 h2 h3 rfl
  | try_ h1 h2 h3 => cases h3
  | lib h1 h2 h3 => exact .lib h1 h2 h3

/-- A worker's receive. -/
theorem PI.recv (hp : PhOk ph) (hZ : ∀ g w, Z g w → w.output = gho 17 0 0) (h : PI P ph B' Z dead ws Bs k0 gs W t E a b c bl S cs st sm ρ L) {x lo : Nat} (hx : x < jOf ph.n a b) {gx g : Goroutine} {ρw : Rk} {K : Goroutine → World → Prop}
    (hg : gs[k0 + x]? = some gx) (hrun : gx.status = .running) (hE : E x = (0, lo)) (hd : Deaf t (k0 + x) = 0) (hm : L[k0 + x - 1]? = some (7, (ρw, 0)))
    (hout : (ws (k0 + x)).output = gho 0 lo 0) (hH : ActH P false (Bs (k0 + x)) (WAc P ph) NoZ ρw g (ws (k0 + x)))
    (hst : stepG P false gx W = .comm (core g) #[rcase ph.ch ph.z] true (.recv true) W #[])
    (hj : ∀ i, lo ≤ i → i < ph.N → K (Conc.served (core g) (.tuple #[ph.jv i, .bool true])) ((World.upto (ws (k0 + x)) W).say 1 i 0)) (hc : K (Conc.served (core g) (.tuple #[ph.z, .bool false])) ((World.upto (ws (k0 + x)) W).say 2 0 0))
    (hcont : ∀ g' w', K g' w' → ∃ ρ', Rk.lt ρ' ρw ∧ RunR P false (Bs (k0 + x)) (WAc P ph) NoZ ρ' g' w') :
    Res P gs W sl (k0 + x) t ((ρo, (0, ρ)), (L, runs gs)) (IPo P ph B' Z dead ρo) := by
  have k1 := h.k1
  have hk : k0 + x < gs.size := by rw [h.sz]; omega
  have hne0 : ((k0 + x) == 0) = false := by simp; omega
  have hst' : stepG P ((k0 + x) == 0) gx W = .comm (core g) #[rcase ph.ch ph.z] true (.recv true) W #[] := by rw [hne0]; exact hst
  obtain ⟨s, tm, hch⟩ := h.wCh
  have hev0 : ∀ pos, MemOp.ofEvents (k0 + x) gx.frame.fn pos #[] = #[] := fun _ => rfl
  by_cases hcl : clOf a = true
  · -- closed
    have hb1 : bl ≠ 1 := by
      rintro rfl
      obtain ⟨g0, _, hm0⟩ := h.mn
      cases hm0 with
      | send => simp [clOf] at hcl
    rw [hcl] at hch
    have hpn : partners (gs.setIfInBounds (k0 + x) Conc.ph) ph.ch true = [] := partners_nil fun j y hy => by
      rcases getElem?_stand _ _ _ _ hy with ⟨_, rfl⟩ | ⟨_, hy'⟩
      · exact offersAt_ph _ _
      · exact h.noSend hZ hb1 j y hy'
    have hr := crowd_recv_closed (sl := sl) hg hst' hch hpn
    rw [finishComm_recv, hev0] at hr
    obtain ⟨ρ', hlt, hR⟩ := hcont _ _ hc
    refine h.workComm (e' := (2, 0)) (m' := (7, (ρ', 0))) hx hr ?_ (h.grp.say hk 2 0 0) ((h.hob.2).review (upto_sub (h.grp.team.sees _ hk).size)) (by rw [hE]; simp) (by simp) (fun hc' => by rw [hcl] at hc'; cases hc') ?_ (h.jobs.idle hx (by rw [hE]; simp) (by omega)) hm (.inl (.right _ (.left _ _ hlt)))
    · intro op hop
      simp at hop; subst hop
      exact ⟨hk, rfl, by simp⟩
    · rw [hd]; exact .run (by omega) rfl rfl hR
  · have hclf : clOf a = false := by simpa using hcl
    rw [hclf] at hch
    by_cases hb1 : bl = 1
    · -- the starter waits with a job
      subst hb1
      obtain ⟨g0, hg0, hm0⟩ := h.mn
      cases hm0 with
      | send hcN hlt0 hR0 =>
        rename_i ρ' gm z
        have hpp : partners (gs.setIfInBounds (k0 + x) Conc.ph) ph.ch true = [(0, 0)] := by
          have := partners_one (r := ph.ch) (send := true) (j := 0) (stand_get (i := k0 + x) (by omega) hg0) (fun k y hk0 hy => ?_)
          · rw [this, offersAt_parked_send]; simp
          · rcases getElem?_stand _ _ _ _ hy with ⟨_, rfl⟩ | ⟨hne, hy'⟩
            · exact offersAt_ph _ _
            · rcases Nat.lt_or_ge k k0 with hl | hge
              · obtain ⟨g1, q, e1, e2, _⟩ := h.lv k (by omega) hl
                rw [hy'] at e1; cases e1
                exact offers_lv e2 _ _
              · have hlt : k < gs.size := (Array.getElem?_eq_some_iff.1 hy').1
                obtain ⟨g1, m, e1, e2, _⟩ := h.wk (k - k0) (by have := h.sz; omega)
                rw [show k0 + (k - k0) = k by omega, hy'] at e1; cases e1
                generalize Deaf t (k0 + (k - k0)) = dd at e2
                generalize E (k - k0) = ee at e2
                cases e2 with
                | run h1 h2 h3 h4 => exact offersAt_of_not_blocked (by rw [h3]; simp) _ _
                | wait h1 h2 h3 h4 => exact offersAt_parked_recv' _ _ _ _ _
                | try_ h1 h2 h3 => exact offersAt_of_not_blocked (by simp [parked]) _ _
                | lib h1 h2 h3 => exact offersAt_of_not_blocked (by rcases @WSit.status ⟨ph.cty⟩ _ _ _ _ _ _ _ _ _ _ _ _ _ _ _ h3 with h | h <;> rw [h] <;> simp) _ _
        have hr := crowd_recv_meets (sl := sl) hg hst' hch (by omega) hg0 hpp
        rw [finishComm_recv, finishComm_send, hev0] at hr
        have hle := h.jobs.lo x hx (by rw [hE])
        rw [hE] at hle
        obtain ⟨ρw', hltw, hRw⟩ := hcont _ _ (hj c hle hcN)
        refine h.meet hp (by omega) (x := x) (d := W.drawn) hx hcN hr ?_ hch (w0' := (ws 0).say 0 ph.n (c + 1)) ?_ ?_ hE hm rfl hR0 hlt0 rfl rfl hRw hd (fun y g m hy hne e1 e2 => wst_unsend e2 (.inl rfl))
        · intro op hop
          simp at hop
          rcases hop with rfl | rfl | rfl | rfl
          · exact ⟨by simp only; omega, rfl, by simp⟩
          · exact ⟨hk, rfl, by simp⟩
          · exact ⟨by simp only; omega, rfl, by simp⟩
          · exact ⟨hk, rfl, by simp⟩
        · have g1 : Grp (upd ws 0 ((ws 0).say 0 ph.n (c + 1))) Bs k0 gs.size W t (deadOf ph dead) := by
            have hs := h.grp.team.sees 0 (by omega)
            exact h.grp.review ⟨hs.os, hs.tape, hs.size, hs.at_, hs.view⟩ (fun b h1 h2 => ⟨h1, h2⟩) (by omega)
          have := g1.say hk 1 c 0
          rwa [upd_ne _ _ (by omega)] at this
        · have o1 : Hid (upd ws 0 ((ws 0).say 0 ph.n (c + 1))) gs.size ph.ob := h.hob.2.review (fun b h1 h2 => ⟨h1, h2⟩)
          refine o1.review (fun b h1 h2 => ?_)
          rw [upd_ne _ _ (by omega)]
          exact upto_sub (h.grp.team.sees _ hk).size b h1 h2
    · -- it waits
      have hno := h.noSend hZ hb1
      have hw : ∀ cc ∈ #[rcase ph.ch ph.z], NoWays W (gs.setIfInBounds (k0 + x) Conc.ph) cc := by
        intro cc hcc
        simp at hcc; subst hcc
        exact ways_recv_none hch (partners_nil fun j y hy => by
          rcases getElem?_stand _ _ _ _ hy with ⟨_, rfl⟩ | ⟨_, hy'⟩
          · exact offersAt_ph _ _
          · exact hno j y hy')
      have hr := crowd_waits (sl := sl) hg hst' hw
      rw [hev0] at hr
      refine h.workComm (e' := (0, lo)) (w' := ws (k0 + x)) (m' := (7, (ρw, 0))) hx hr (by intro op hop; simp at hop) (by rw [upd_id]; exact h.grp) (by rw [upd_id]; exact h.hob.2) (by rw [hE]; simp) (by simp) (fun _ => by simp) ?_ (by rw [← hE, upd_id]; exact h.jobs) hm (.inr ⟨rfl, runs_park hg hrun (by simp [parked])⟩)
      rw [hd]; exact .wait hout hH hclf (by simpa using hb1)

set_option maxHeartbeats 1600000 in
/-- WHATEVER STEP OF A WORKER's. -/
theorem PI.work (hp : PhOk ph) (hZ : ∀ g w, Z g w → w.output = gho 17 0 0) (h : PI P ph B' Z dead ws Bs k0 gs W t E a b c bl S cs st sm ρ L) {x : Nat} (hx : x < jOf ph.n a b) {g : Goroutine} (hg : gs[k0 + x]? = some g) (hrun : g.status = .running) :
    Res P gs W sl (k0 + x) t ((ρo, (0, ρ)), (L, runs gs)) (IPo P ph B' Z dead ρo) := by
  have k1 := h.k1
  have hk : k0 + x < gs.size := by rw [h.sz]; omega
  obtain ⟨g1, m, e1, e2, hm⟩ := h.wk x hx
  rw [hg] at e1; cases e1
  have hS := h.grp.team.sees (k0 + x) hk
  have hO := hS.over
  have hpu := hS.push
  have hnv := hS.noView
  have hlive : WgLive ph.tWg ph.Wg W := ⟨st, sm, h.wWg⟩
  generalize hd : Deaf t (k0 + x) = dd at e2
  generalize hE : E x = ee at e2
  cases e2 with
  | run h1 h2 h3 h4 =>
    rename_i cc i ρw
    have hEc : (E x).1 ≤ 2 := by rw [hE]; exact h1
    have same : ConcN.Mode (jOf ph.n a b) (wds (upd E x (cc, i))) (tagOf a b bl) st sm := by rw [← hE, upd_id]; exact h.mode
    have hopn : clOf a = false → cc ≤ 1 := fun hc => by have := h.opn hc x hx; rw [hE] at this; exact this
    rcases h4.cases with hz | ⟨_, hs⟩ | ⟨_, ha⟩
    · exact (hz _ (Push.refl _)).elim
    · obtain ⟨ρ', g', w', es, hlt, hT, hv, hR⟩ := hs _ hpu hnv
      obtain ⟨W', hgo, hG, hle, hhid, hlow, hops, hdm⟩ := h.grp.step (fn := g.frame.fn) (pos := g.frame.place) hk (.inr (by omega)) hT hv
      have hWg := h.grp.hid ph.Wg (.inr (.inl rfl))
      have hCh := h.grp.hid ph.ch (.inr (.inr rfl))
      have hCl : ph.C < Bs (k0 + x) := Nat.lt_of_lt_of_le h.cC.1 (h.bw x hx)
      have hCs : ph.C < W.heap.size := (Array.getElem?_eq_some_iff.1 h.cC.2).1
      refine h.workGo (e' := (cc, i)) (S' := S) (cs' := cs) (st' := st) (sm' := sm) (m' := (7, (ρ', 0))) hZ hx hg hgo hG ⟨by have := h.hob.1; omega, (hhid _ h.hob.1 h.hob.2).2⟩ ((hlow _ hCs hCl).trans h.cC.2) (h.wWg.of_block (hhid _ hWg.1 hWg.2).1) (hhid _ hCh.1 hCh.2).1 ((hhid _ h.hob.1 h.hob.2).1.trans h.wOb)
        ?_ (by rw [← hE, upd_id]; exact h.jobs) hopn (by rw [← hE, upd_id]; exact Nat.le_refl _) (fun _ hb _ => same.retag (tag_re hb)) (fun h3' => by simp only at h3'; omega) ?_ hm (.right _ (.left _ _ hlt))
      · rw [hd, deafBehind_idle hdm]
        exact .run h1 (hT.1.2.2.trans h2) (runR_running hR) hR
      · refine h.tch.app (fun _ x => x) (fun op hop => ?_) fun op hop y hy => ?_
        · rcases (hops op hop).2 with e | ⟨y, b', _, _, _, _, e, he⟩
          · rw [e]; simp
          · rw [he]; simp
        · rcases (hops op hop).2 with e | ⟨y', b', hy', hpl, hbk, hnh, _⟩
          · rw [e] at hy; cases hy
          · rw [hy'] at hy; cases hy
            refine ⟨fun hb => ?_, fun hb => ?_, fun hb => ?_⟩
            · rw [hbk] at hb; cases hb; exact absurd hWg.2 (hnh hWg.1)
            · rw [hbk] at hb; cases hb; exact absurd h.hob.2 (hnh h.hob.1)
            · rw [hbk] at hb; cases hb; exact absurd hCh.2 (hnh hCh.1)
    · obtain ⟨K, hK, hcont⟩ := ha _ hpu hnv
      cases hK with
      | idle hw hdo =>
        obtain ⟨rfl, rfl, _⟩ := gho_inj (h2.symm.trans hw)
        obtain ⟨g', hgo, hk'⟩ := hdo W hO hlive h.cC.2
        obtain ⟨ρ', hlt, hR⟩ := hcont _ _ hk'
        refine h.workGo (e' := (2, 0)) (S' := S) (cs' := cs) (st' := st) (sm' := sm) (m' := (7, (ρ', 0))) hZ hx hg hgo ((h.grp.upto hk).evG h.tch hk (.inr ⟨x, hx, rfl⟩) (by simp)) ⟨h.hob.1, h.hob.2.review (upto_sub hS.size)⟩ h.cC.2 h.wWg rfl h.wOb
          ?_ (by rw [← hE, upd_id]; exact h.jobs) hopn (by rw [← hE, upd_id]; exact Nat.le_refl _) (fun _ hb _ => same.retag (tag_re hb)) (fun h3' => by simp only at h3'; omega) (h.tch.evG (k := k0 + x) hp.wo (by simp)) hm (.right _ (.left _ _ hlt))
        rw [hd]
        exact .run h1 hw (runR_running hR) hR
      | recv hw hst hj hc =>
        obtain ⟨rfl, rfl, _⟩ := gho_inj (h2.symm.trans hw)
        exact h.recv hp hZ hx hg hrun hE hd hm h2 (fun w1 p q => ha w1 p q) (hst W hO) hj hc hcont
      | store hw hst =>
        obtain ⟨rfl, rfl, _⟩ := gho_inj (h2.symm.trans hw)
        obtain ⟨g', es, hgo, hes, hk'⟩ := hst W cs hO h.wOb h.jobs.csz
        obtain ⟨ρ', hlt, hR⟩ := hcont _ _ hk'
        obtain ⟨hi, hnS⟩ := h.jobs.j2 x i hx hE
        have hAp : Apt ws gs.size W { W with heap := W.heap.setIfInBounds ph.ob (.cells (putAt cs (i * ph.cpe) (ph.F i)) ph.ety) } := Apt.put W h.hob.2 hp.lO _
        have hcell : ∀ op ∈ MemOp.ofEvents (k0 + x) g.frame.fn g.frame.place es, ∃ kk, kk < ph.cpe ∧ op.act = .access ⟨.cell ⟨ph.ob, i * ph.cpe + kk, none⟩, true, false⟩ := by
          intro op hop
          rw [ofEvents_eq] at hop
          obtain ⟨e, he, rfl⟩ := Array.mem_map.1 hop
          replace he := hes e he
          simp only [stEv, List.mem_toArray, List.mem_map, List.mem_range] at he
          obtain ⟨kk, hkk, rfl⟩ := he
          exact ⟨kk, hkk, rfl⟩
        have hdiv : ∀ kk, kk < ph.cpe → (i * ph.cpe + kk) / ph.cpe = i := fun kk hkk => by
          rw [Nat.mul_comm, Nat.mul_add_div hp.cpe, Nat.div_eq_of_lt hkk]; rfl
        have hother : ∀ bb, bb ≠ ph.ob → ({ W with heap := W.heap.setIfInBounds ph.ob (.cells (putAt cs (i * ph.cpe) (ph.F i)) ph.ety) } : World).heap[bb]? = W.heap[bb]? := fun bb hb => by
          simp only; rw [Array.getElem?_setIfInBounds_ne (Ne.symm hb)]
        refine h.workGo (e' := (0, i + 1)) (w' := (World.upto (ws (k0 + x)) W).say 0 (i + 1) 0) (S' := fun k => S k ∨ k = i) (cs' := putAt cs (i * ph.cpe) (ph.F i)) (st' := st) (sm' := sm) (m' := (7, (ρ', 0))) hZ hx hg hgo ?_ ⟨by rw [hAp.size]; exact h.hob.1, h.hob.2.review (upto_sub hS.size)⟩ ((hother _ hp.cO).trans h.cC.2) (h.wWg.of_block (hother _ hp.wo)) (hother _ hp.co)
          ?_ ?_ (h.jobs.store hp hx hE) (fun _ => by simp) ?_ (fun bl' hb _ => (mode_low hEc (by simp) h.mode).retag (tag_re hb)) (fun h3' => by simp at h3') ?_ hm (.right _ (.left _ _ hlt))
        · refine ((h.grp.say hk 0 (i + 1) 0).apt ?_).mark hk (.inr (by omega)) g_of_ofEvents fun op hop y hy => ?_
          · exact Apt.put (ws := upd ws (k0 + x) ((World.upto (ws (k0 + x)) W).say 0 (i + 1) 0)) W (Hid.review (w' := (World.upto (ws (k0 + x)) W).say 0 (i + 1) 0) h.hob.2 (upto_sub hS.size)) hp.lO _
          · obtain ⟨kk, hkk, he⟩ := hcell op hop
            rw [he] at hy
            simp only [MemAct.touch?, Option.some.injEq] at hy
            subst hy
            refine ⟨fun bb hb => ?_, fun hne => absurd rfl hne, fun said i' y' hy' hc => ?_⟩
            · simp only [blk, Option.some.injEq] at hb
              subst hb
              exact ⟨by simp only [Array.size_setIfInBounds]; exact h.hob.1, h.hob.2.review (upto_sub hS.size)⟩
            · have hl : y'.loc = .cell ⟨ph.ob, i * ph.cpe + kk, none⟩ := hc.1
              rcases h.tch.ob i' y' hy' (by rw [hl]; rfl) with ⟨_, q⟩ | ⟨o, q1, q2⟩
              · exact q x hx
              · rw [hl] at q1
                have : o = i * ph.cpe + kk := by cases q1; rfl
                rw [this, hdiv kk hkk] at q2
                exact absurd q2 hnS
        · simp only; rw [Array.getElem?_setIfInBounds_self_of_lt h.hob.1]
        · rw [hd, deafBehind_idle (fun e he => by
            replace he := hes e he
            simp only [stEv, List.mem_toArray, List.mem_map] at he
            obtain ⟨kk, _, rfl⟩ := he
            exact ⟨by simp, by simp⟩)]
          exact .run (by omega) rfl (runR_running hR) hR
        · refine Nat.le_of_eq (sumTo_congr fun y hy => ?_)
          by_cases e : y = x
          · subst e; rw [cnt_wds, cnt_wds, upd_same, if_pos (by omega), if_pos (by omega)]
          · simp only [wds, upd_ne _ _ e]
        · refine h.tch.app (fun _ q => .inl q) (fun op hop => ?_) fun op hop y hy => ?_
          · obtain ⟨kk, hkk, he⟩ := hcell op hop
            rw [he]; simp
          · obtain ⟨kk, hkk, he⟩ := hcell op hop
            rw [he] at hy
            simp only [MemAct.touch?, Option.some.injEq] at hy
            subst hy
            refine ⟨fun hb => ?_, fun _ => ⟨_, rfl, .inr (hdiv kk hkk)⟩, fun hb => ?_⟩
            · simp only [blk, Option.some.injEq] at hb
              exact absurd hb.symm hp.wo
            · simp only [blk, Option.some.injEq] at hb
              exact absurd hb.symm hp.co
      | rel hw hst =>
        obtain ⟨rfl, rfl, _⟩ := gho_inj (h2.symm.trans hw)
        obtain ⟨g', hgo, mm, hW⟩ := hst W hO hlive h.cC.2
        have hcl : clOf a = true := by
          cases hc : clOf a with
          | true => rfl
          | false => have := hopn hc; omega
        have hev : ∀ e ∈ #[Go.ConcR.mk (.releaseMerge (stA ph.Wg))], EvG ph (k0 + x) e := by
          intro e he
          simp at he; subst he
          rw [EvG, ofEvent_mk]
          exact ⟨fun y hy => (by cases hy), by simp⟩
        have hmode6 : ConcN.Mode (jOf ph.n a b) (wds (upd E x (9 - 6, 0))) (tagOf a b bl) st sm := by
          rw [wds_upd, show stageOf (9 - 6, 0).1 = 6 from rfl]
          exact h.mode.counted hx (by unfold wds; rw [hE]; decide) (.inl rfl) _ _
        refine h.workGo (e' := (9 - 6, 0)) (w' := ws (k0 + x)) (S' := S) (cs' := cs) (st' := st) (sm' := sm) (m' := (6, (rk0, mm))) hZ hx hg hgo (by rw [upd_id]; exact h.grp.evG h.tch hk (.inr ⟨x, hx, rfl⟩) hev) (by rw [upd_id]; exact h.hob) h.cC.2 h.wWg rfl h.wOb
          ?_ (h.jobs.idle hx (by rw [hE]; simp) (by omega)) (fun hc => by rw [hcl] at hc; cases hc) (vc_upd_le E _ hx (by rw [hE]; simp)) (fun _ hb _ => hmode6.retag (tag_re hb)) (fun _ => ⟨t.size, RelBy.new hd _ _⟩) (h.tch.evG hp.wo hev) hm (.left _ _ (by omega))
        rw [hd]
        exact .lib (by omega) (by omega) (@WSit.k1 ⟨ph.cty⟩ _ _ _ _ _ _ _ _ _ _ _ _ _ hW)
  | wait h1 h2 h3 h4 => simp [parked] at hrun
  | try_ h1 h2 h3 =>
    rename_i lo ρw g
    obtain ⟨K, hK, hcont⟩ := h2 _ hpu hnv
    cases hK with
    | idle hw hdo => have := (gho_inj (h1.symm.trans hw)).1; omega
    | store hw hst => have := (gho_inj (h1.symm.trans hw)).1; omega
    | rel hw hst => have := (gho_inj (h1.symm.trans hw)).1; omega
    | recv hw hst hj hc =>
      obtain ⟨_, rfl, _⟩ := gho_inj (h1.symm.trans hw)
      exact h.recv hp hZ hx hg hrun hE hd hm h1 h2 ((stepG_same rfl rfl rfl W).trans (hst W hO)) hj hc hcont
  | lib h1 h2 h3 => exact h.workLib hp hZ hx hg hrun h1 h2 hE h3 hd hm
end
end Go.Tx
