/- The pool's machine, fourth part: whatever step of a worker's, of the starter's. -/
import Derived.Test.YtngoijkcbmchdaaGreatDoorMc
set_option linter.unusedVariables false
set_option linter.unusedSimpArgs false
namespace Go.Tx
open Go.Conc Go.ConcN
open Go.ConcR (KK wgBlock WgAt stA smA rd wr mk again_blocked g_of_ofEvents)
variable [Old]

def runs (gs : Array Goroutine) : Nat := gs.toList.countP fun g => g.status == .running
/-- The pool's invariant: what falls, the machine, the trace. -/
def IPo (P : Program) (ph : Ph) (B' : Nat) (Z : Goroutine → World → Prop) (dead : Nat → Prop) (ρo : Rk) (μ : Mz) (m : Machine) (t : Trace) : Prop :=
  ∃ ws Bs k0 gs W sl E a b c bl S cs st sm ρ L, m = crowd gs W sl ∧ PI P ph B' Z dead ws Bs k0 gs W t E a b c bl S cs st sm ρ L ∧ μ = ((ρo, (0, ρ)), (L, runs gs))
/-- The step of goroutine i: it goes on, something falls, I holds again. -/
def Res (P : Program) (gs : Array Goroutine) (W : World) (sl : Option (Nat × Nat)) (i : Nat) (t : Trace) (μ : Mz) (I : Mz → Machine → Trace → Prop) : Prop :=
  ∃ m' ops μ', runT P (crowd gs W sl) i = (.next m', ops) ∧ Mz.lt μ' μ ∧ I μ' m' (t ++ ops)

section
variable {P : Program} {ph : Ph} {B' : Nat} {Z : Goroutine → World → Prop} {dead : Nat → Prop} {ws : Nat → World} {Bs : Nat → Nat} {k0 : Nat} {gs : Array Goroutine} {W W' : World} {sl : Option (Nat × Nat)} {t : Trace}
  {E : Nat → Nat × Nat} {a b c bl : Nat} {S S' : Nat → Prop} {cs cs' : Array Value} {st sm st' sm' : Int} {ρ ρo : Rk} {L : List Wm}

theorem PI.drew (h : PI P ph B' Z dead ws Bs k0 gs W t E a b c bl S cs st sm ρ L) (d : Nat) : PI P ph B' Z dead ws Bs k0 gs (W.at d) t E a b c bl S cs st sm ρ L :=
  { h with grp := h.grp.drew d, wk := fun x hx => let ⟨g, m, h1, h2, h3⟩ := h.wk x hx; ⟨g, m, h1, h2.rely (rw_of ⟨st, sm, h.wWg⟩ h.cC.2 h.cC.2), h3⟩, hob := h.hob, cC := h.cC, wWg := h.wWg, wCh := h.wCh, wOb := h.wOb }

omit [Old] in
theorem le16 (h : OkG ph.n ph.N a b c) : a ≤ 16 := by unfold OkG at h; omega

theorem PI.workGo (hZ : ∀ g w, Z g w → w.output = gho 17 0 0) (h : PI P ph B' Z dead ws Bs k0 gs W t E a b c bl S cs st sm ρ L) {x : Nat} (hx : x < jOf ph.n a b) {g g' : Goroutine} {es : Array Event} {w' : World} {e' : Nat × Nat} {m m' : Wm}
    (hg : gs[k0 + x]? = some g) (hgo : stepG P false g W = .go g' W' es)
    (hG : Grp (upd ws (k0 + x) w') Bs k0 gs.size W' (t ++ MemOp.ofEvents (k0 + x) g.frame.fn g.frame.place es) (deadOf ph dead))
    (hob : ph.ob < W'.heap.size ∧ Hid (upd ws (k0 + x) w') gs.size ph.ob) (hC : Cst ph W') (hwg : WgAt ph.tWg ph.Wg W' st' sm') (hch : W'.heap[ph.ch]? = W.heap[ph.ch]?) (hO : W'.heap[ph.ob]? = some (.cells cs' ph.ety))
    (hws : WSt P ph (Bs (k0 + x)) (clOf a) (bl == 1) (deafBehind (Deaf t (k0 + x)) es) e' m' g' w' W') (hj : Jobs ph (jOf ph.n a b) (sentOf ph.N a c) (upd E x e') S' cs')
    (hopn : clOf a = false → e'.1 ≤ 1) (hvc : Vc (jOf ph.n a b) (wds (upd E x e')) ≤ Vc (jOf ph.n a b) (wds E))
    (hmode : ∀ bl', (bl' = bl ∨ (bl = 2 ∧ bl' = 0)) → (mayWake P g = true → g'.status = .running → bl' ≠ 2) → ConcN.Mode (jOf ph.n a b) (wds (upd E x e')) (tagOf a b bl') st' sm')
    (hrel : 3 ≤ e'.1 → ∃ r, RelBy (stA ph.Wg) (t ++ MemOp.ofEvents (k0 + x) g.frame.fn g.frame.place es) (k0 + x) r)
    (htch : Tch ph k0 (jOf ph.n a b) (t ++ MemOp.ofEvents (k0 + x) g.frame.fn g.frame.place es) S') (hm : L[k0 + x - 1]? = some m) (hlt : Wm.lt m' m) :
    Res P gs W sl (k0 + x) t ((ρo, (0, ρ)), (L, runs gs)) (IPo P ph B' Z dead ρo) := by
  have k1 := h.k1
  have hsz := h.sz
  have hne0 : ((k0 + x) == 0) = false := by simp; omega
  have hrun := runT_crowd_go (P := P) (sl := sl) (i := k0 + x) hg (by rw [hne0]; exact hgo)
  obtain ⟨s, tm, hc0⟩ := h.wCh
  have hcW := hch.trans hc0
  obtain ⟨g0, hg0, hm0⟩ := h.mn
  obtain ⟨bl', hm1, hbl, hwk⟩ := hm0.woken (x := g) (x' := g') (W' := W') (le16 h.ok) hZ hcW
  have hgs : ∀ k, k ≠ k0 + x → ((gs.map (woken P g g' W')).setIfInBounds (k0 + x) g')[k]? = (gs[k]?).map (woken P g g' W') := fun k hk => get_map_set _ _ _ _ (Ne.symm hk)
  have hbl1 : (bl' == 1) = (bl == 1) := by rcases hbl with rfl | ⟨rfl, rfl⟩ <;> rfl
  refine ⟨_, _, ((ρo, (0, ρ)), (L.set (k0 + x - 1) m', runs _)), hrun, Mz.work (GAr.set hm hlt) _ _, upd ws (k0 + x) w', Bs, k0, _, W', sl, upd E x e', a, b, c, bl', S', cs', st', sm', ρ, _, rfl, ?_, rfl⟩
  have hs' : ((gs.map (woken P g g' W')).setIfInBounds (k0 + x) g').size = gs.size := by simp
  refine ⟨by rw [hs']; exact hG, h.b0, h.bw, h.k1, by rw [hs']; exact hsz, by rw [hs', List.length_set]; exact h.len, fun k h1 h2 => ?_, fun y hy => ?_, ?_, ?_, h.ok, by rw [hs']; exact hob, ⟨h.cC.1, hC⟩, hwg, hmode bl' hbl hwk, ⟨s, tm, hcW⟩, hO, hj, fun hcl y hy => ?_, fun ha => Nat.le_trans hvc (h.vb ha), fun y hy h3 => ?_, htch⟩
  · obtain ⟨g1, q, e1, e2, e3⟩ := h.lv k h1 h2
    refine ⟨g1, q, by rw [hgs k (by omega), e1, Option.map_some, woken_quitsD e2], ?_, by rw [List.getElem?_set_ne (by omega)]; exact e3⟩
    rw [Deaf_other t (by omega) _ g_of_ofEvents]; exact e2
  · by_cases e : y = x
    · subst e
      refine ⟨g', m', get_map_set_same _ _ _ (by omega), ?_, ?_⟩
      · rw [upd_same, upd_same, Deaf_own, hbl1]; exact hws
      · rw [List.getElem?_set_self]; have := h.len; omega
    · obtain ⟨g1, m1, e1, e2, e3⟩ := h.wk y hy
      refine ⟨g1, m1, by rw [hgs _ (by omega), e1, Option.map_some, e2.woken hcW], ?_, by rw [List.getElem?_set_ne (by omega)]; exact e3⟩
      rw [upd_ne _ _ e, upd_ne _ _ (by omega), Deaf_other t (by omega) _ g_of_ofEvents, hbl1]
      exact e2.rely (rw_of ⟨st', sm', hwg⟩ h.cC.2 hC)
  · rw [Deaf_other t (by omega) _ g_of_ofEvents]; exact h.d0
  · refine ⟨_, by rw [hgs 0 (by omega), hg0]; rfl, ?_⟩
    rw [upd_ne _ _ (by omega)]; exact hm1
  · by_cases e : y = x
    · subst e; rw [upd_same]; exact hopn hcl
    · rw [upd_ne _ _ e]; exact h.opn hcl y hy
  · by_cases e : y = x
    · subst e; rw [upd_same] at h3; exact hrel h3
    · rw [upd_ne _ _ e] at h3
      obtain ⟨r, hr⟩ := h.rel y hy h3
      exact ⟨r, hr.appOther g_of_ofEvents (by omega)⟩

/-- Whatever step of the starter's that is neither a communication nor a go statement nor the close. -/
theorem PI.mainGo (h : PI P ph B' Z dead ws Bs k0 gs W t E a b c bl S cs st sm ρ L) {g g' : Goroutine} {es : Array Event} {w' : World} {a' b' c' bl' : Nat} {ρ' : Rk}
    (hg : gs[0]? = some g) (hgo : stepG P true g W = .go g' W' es) (hj : jOf ph.n a' b' = jOf ph.n a b) (hcl : clOf a' = clOf a) (hse : sentOf ph.N a' c' = sentOf ph.N a c) (hbl : (bl' == 1) = (bl == 1))
    (hG : Grp (upd ws 0 w') Bs k0 gs.size W' (t ++ MemOp.ofEvents 0 g.frame.fn g.frame.place es) (deadOf ph dead))
    (hob : ph.ob < W'.heap.size ∧ Hid (upd ws 0 w') gs.size ph.ob) (hC : Cst ph W') (hwg : WgAt ph.tWg ph.Wg W' st' sm') (hch : W'.heap[ph.ch]? = W.heap[ph.ch]?) (hO : W'.heap[ph.ob]? = W.heap[ph.ob]?)
    (hms : MSt P ph B' Z a' b' c' bl' ρ' g' w') (hok : OkG ph.n ph.N a' b' c') (hd : deafBehind (Deaf t 0) es = deaf0 a')
    (hmode : ConcN.Mode (jOf ph.n a b) (wds E) (tagOf a' b' bl') st' sm') (hvb : a' = 11 → Vc (jOf ph.n a b) (wds E) ≤ b')
    (htch : Tch ph k0 (jOf ph.n a b) (t ++ MemOp.ofEvents 0 g.frame.fn g.frame.place es) S)
    (hlt : Rk.lt ρ' ρ ∨ (ρ' = ρ ∧ runs ((gs.map (woken P g g' W')).setIfInBounds 0 g') < runs gs)) :
    Res P gs W sl 0 t ((ρo, (0, ρ)), (L, runs gs)) (IPo P ph B' Z dead ρo) := by
  have k1 := h.k1
  have hsz := h.sz
  have hrun := runT_crowd_go (P := P) (sl := sl) (i := 0) hg (by simpa using hgo)
  obtain ⟨s, tm, hc0⟩ := h.wCh
  have hcW := hch.trans hc0
  have hgs : ∀ k, k ≠ 0 → ((gs.map (woken P g g' W')).setIfInBounds 0 g')[k]? = (gs[k]?).map (woken P g g' W') := fun k hk => get_map_set _ _ _ _ (Ne.symm hk)
  have hs' : ((gs.map (woken P g g' W')).setIfInBounds 0 g').size = gs.size := by simp
  refine ⟨_, _, ((ρo, (0, ρ')), (L, runs _)), hrun, ?_, upd ws 0 w', Bs, k0, _, W', sl, E, a', b', c', bl', S, cs, st', sm', ρ', L, rfl, ?_, rfl⟩
  · rcases hlt with hlt | ⟨rfl, hlt⟩
    · exact Mz.main (.right _ (.right _ hlt)) _ _
    · exact Mz.runs hlt
  refine ⟨by rw [hs']; exact hG, h.b0, by rw [hj]; exact h.bw, h.k1, by rw [hs', hj]; exact hsz, by rw [hs']; exact h.len, fun k h1 h2 => ?_, fun y hy => ?_, ?_, ?_, hok, by rw [hs']; exact hob, ⟨h.cC.1, hC⟩, hwg, by rw [hj]; exact hmode, ⟨s, tm, by rw [hcl]; exact hcW⟩, hO.trans h.wOb, by rw [hj, hse]; exact h.jobs, by rw [hcl, hj]; exact h.opn, by rw [hj]; exact hvb, fun y hy h3 => ?_, by rw [hj]; exact htch⟩
  · obtain ⟨g1, q, e1, e2, e3⟩ := h.lv k h1 h2
    refine ⟨g1, q, by rw [hgs k (by omega), e1, Option.map_some, woken_quitsD e2], ?_, e3⟩
    rw [Deaf_other t (by omega) _ g_of_ofEvents]; exact e2
  · rw [hj] at hy
    obtain ⟨g1, m1, e1, e2, e3⟩ := h.wk y hy
    refine ⟨g1, m1, by rw [hgs _ (by omega), e1, Option.map_some, e2.woken hcW], ?_, e3⟩
    rw [upd_ne _ _ (by omega), Deaf_other t (by omega) _ g_of_ofEvents, hbl, hcl]
    exact e2.rely (rw_of ⟨st', sm', hwg⟩ h.cC.2 hC)
  · rw [Deaf_own]; exact hd
  · exact ⟨g', get_map_set_same _ _ _ (by omega), by rw [upd_same]; exact hms⟩
  · rw [hj] at hy
    obtain ⟨r, hr⟩ := h.rel y hy h3
    exact ⟨r, hr.appOther g_of_ofEvents (by omega)⟩
end
end Go.Tx
