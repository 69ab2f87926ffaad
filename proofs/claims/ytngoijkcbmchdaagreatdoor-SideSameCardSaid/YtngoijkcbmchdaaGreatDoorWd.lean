/- The library's Done in company: the way to its release, and a worker's run through it. -/
import Derived.Test.YtngoijkcbmchdaaGreatDoorWa
set_option linter.unusedVariables false
set_option linter.unusedSimpArgs false
namespace Go.Tx
open Go.Conc Go.ConcN Go.RowKit Go.Conc.Lib Go.ConcR.Gen Go.ConcN.Gen
open Go.ConcR (KK wgBlock WgAt stA smA rd wr DC0)

def Nowhere (g : Goroutine) (w : World) : Prop := True

set_option maxRecDepth 100000 in
set_option maxHeartbeats 4000000 in
theorem relW {P : Program} {L : WgLink} (H : WgLib P L) {Wg : Nat} {cs : List Frame} (w : World) (hK : WgLive L.tWg Wg w) :
    Way P false L.tWg Wg (AMk P false L.tWg Wg (Go.ConcR.mk (.releaseMerge (stA Wg))) (AMk P false L.tWg Wg (Go.ConcR.mk .disable) Nowhere))
      (Conc.G ((baseD L.done).at ⟨#[.pointer (some ⟨Wg, 0, none⟩), undef, undef, undef], []⟩ [.code (body_done L)]) cs) w := by
  refine ⟨23, ?_⟩
  lib_facts
  simp only [body_done, doneFn, Option.getD_some]
  u_reg r0_rely hK
  u_op r0_rely hK
  u_in r0_rely hK
  refine goes_call rfl rfl (by k_ne) rfl H.f_add (nm_add L) rfl ⟨by u_nil, ?_⟩
  walk_nrmf addFn
  try simp only [body_add, addFn, Option.getD_some]
  u_c stepG_seq r0_rely hK
  u_cond true r0_rely hK
  u_c stepG_seq r0_rely hK
  u_c stepG_seq r0_rely hK
  u_reg r0_rely hK
  u_op r0_rely hK
  u_op r0_rely hK
  u_c stepG_region_end r0_rely hK
  u_cond true r0_rely hK
  u_reg r0_rely hK
  u_op r0_rely hK
  u_conv H.underlying_tWgP H.room_tWg (WgLive.cell0 hK).choose_spec r0_rely hK
  refine Goes.stop (fun w₁ h₁ => ?_)
  replace hK := r0_rely hK h₁
  clear h₁
  refine ⟨rfl, _, stepG_markAt .releaseMerge (by simp) rfl rfl (by k_ne) rfl H.f_relMerge (x_relMerge_n L) (x_relMerge_b L) (x_relMerge_x L) (x_relMerge_f L) (by simp [Act.eval, stA]), 10, ?_⟩
  walk_nrm
  u_c stepG_region_end r0_rely hK
  u_c stepG_seq r0_rely hK
  u_reg r0_rely hK
  refine Goes.stop (fun w₁ h₁ => ?_)
  replace hK := r0_rely hK h₁
  clear h₁
  exact ⟨rfl, _, stepG_mark0 .disable (by simp) rfl rfl (by k_ne) rfl H.f_disable (x_disable_n L) (x_disable_b L) (x_disable_x L) (x_disable_f L), 0, fun _ _ => trivial⟩

section
variable {P : Program} {L : WgLink} {ph : Ph} {B : Nat} {Z : Goroutine → World → Prop}

/-- The group's block is one, and the cell stands. -/
def Fine (ph : Ph) (W : World) : Prop := WgLive ph.tWg ph.Wg W ∧ Cst ph W
theorem Fine.rw {W W' : World} (h : Fine ph W) (h' : Fine ph W') : @RW ⟨ph.cty⟩ ph.tWg ph.Wg ph.C 1 0 0 W W' := by
  have hc : ∀ V, Cst ph V → V.cell? ⟨ph.C, 0, none⟩ = some ph.cv := fun V hV => by unfold World.cell?; rw [show V.heap[ph.C]? = _ from hV]; simp
  letI : Go.ConcR.Payload := ⟨ph.cty⟩
  exact ⟨fun b hb => by omega, fun _ => h'.1, fun _ => ⟨_, h'.2, by simp⟩, (hc _ h'.2).trans (hc _ h.2).symm⟩

theorem rw_trans (a b c : World) (h : @RW ⟨ph.cty⟩ ph.tWg ph.Wg ph.C 1 0 0 a b) (k : @RW ⟨ph.cty⟩ ph.tWg ph.Wg ph.C 1 0 0 b c) : @RW ⟨ph.cty⟩ ph.tWg ph.Wg ph.C 1 0 0 a c :=
  letI : Go.ConcR.Payload := ⟨ph.cty⟩
  ⟨fun b hb => by omega, fun x => k.live (h.live x), fun x => k.pay (h.pay x), k.cell.trans h.cell⟩
abbrev Goes2 (P : Program) (ph : Ph) (m : Nat) (g : Goroutine) (W : World) : Prop :=
  Goes P false (@RW ⟨ph.cty⟩ ph.tWg ph.Wg ph.C 1 0 0) (@DWs ⟨ph.cty⟩ ph.Wg NoL NoL ph.C 1 1) (@ConcN.AtR0 ⟨ph.cty⟩ P ph.tWg ph.Wg ph.C 1 0 1 ph.cv) m g W

theorem Goes2.cases {m : Nat} {g g' : Goroutine} {W : World} {es : Array Event} (h : Goes2 P ph m g W) (hF : Fine ph W) (hs : stepG P false g W = .go g' W es) :
    (@ConcN.AtR0 ⟨ph.cty⟩ P ph.tWg ph.Wg ph.C 1 0 1 ph.cv g W) ∨ (∃ m', Goes2 P ph m' g' W) ∧ ∀ e ∈ es, EvW ph.Wg NoL NoL 1 e := by
  cases m with
  | zero => exact .inl (h W (hF.rw hF))
  | succ m =>
    rcases h with h | ⟨_, h⟩
    · exact .inl (h W (hF.rw hF))
    · have := h W (hF.rw hF)
      rw [hs] at this
      exact .inr ⟨⟨m, this.2⟩, this.1.2⟩

/-- It does not go on to the word behind the release. -/
theorem no_dis {m m' : Nat} {g : Goroutine} {W : World} (h : Goes P false (R0 ph.tWg ph.Wg) DC0 (AMk P false ph.tWg ph.Wg (Go.ConcR.mk .disable) Nowhere) m g W) (h2 : Goes2 P ph m' g W) (hF : Fine ph W) : False := by
  have stop : ∀ {g m'}, AMk P false ph.tWg ph.Wg (Go.ConcR.mk .disable) Nowhere g W → Goes2 P ph m' g W → False := by
    rintro g m' ⟨_, g', e, _⟩ h2
    rcases h2.cases hF e with ⟨_, _, g2, e2, _⟩ | ⟨_, q⟩
    · rw [e] at e2; simp [Go.ConcR.mk] at e2
    · exact (q (Go.ConcR.mk .disable) (by simp)).2.1 rfl
  induction m generalizing g m' with
  | zero => exact stop (h W (r0_all hF.1)) h2
  | succ m ih =>
    rcases h with h | ⟨_, h⟩
    · exact stop (h W (r0_all hF.1)) h2
    · obtain ⟨g', w', es, e, ⟨rfl, rfl⟩, hg⟩ := goes_elim (h W (r0_all hF.1))
      rcases h2.cases hF e with ⟨_, _, g2, e2, _⟩ | ⟨⟨m2, q⟩, _⟩
      · rw [e] at e2; simp at e2
      · exact ih hg q

theorem rel_run {W0 : World} (hW0 : Fine ph W0) : ∀ (m : Nat) (g : Goroutine) (w : World), Goes P false (R0 ph.tWg ph.Wg) DC0 (AMk P false ph.tWg ph.Wg (Go.ConcR.mk (.releaseMerge (stA ph.Wg))) (AMk P false ph.tWg ph.Wg (Go.ConcR.mk .disable) Nowhere)) m g W0 →
    (∃ m', Goes2 P ph m' g W0) → w.output = gho 2 0 0 → Run1 P false B (WAc P ph) Z g w := by
  have stop : ∀ (g : Goroutine) (w : World), (∀ W, Fine ph W → AMk P false ph.tWg ph.Wg (Go.ConcR.mk (.releaseMerge (stA ph.Wg))) (AMk P false ph.tWg ph.Wg (Go.ConcR.mk .disable) Nowhere) g W) →
      (∀ W, Fine ph W → ∃ m', Goes2 P ph m' g W) → w.output = gho 2 0 0 → Run1 P false B (WAc P ph) Z g w := by
    intro g w h h2 ho
    refine .act (K := fun _ _ _ => False) (h W0 hW0).1 (fun w1 p q => .rel (p.output.trans ho) fun W hO hl hC => ?_) fun w1 p q g' w' hK => hK.elim
    obtain ⟨_, g', e, m2, h3⟩ := h W ⟨hl, hC⟩
    obtain ⟨m', q2⟩ := h2 W ⟨hl, hC⟩
    refine ⟨g', e, ?_⟩
    rcases q2.cases ⟨hl, hC⟩ e with ⟨_, _, g2, e2, r⟩ | ⟨⟨m3, q3⟩, _⟩
    · rw [e] at e2; cases e2; exact r
    · exact (no_dis h3 q3 ⟨hl, hC⟩).elim
  intro m
  induction m generalizing W0 with
  | zero => exact fun g w h ⟨m', h2⟩ ho => stop g w (fun W hW => h W (r0_all hW.1)) (fun W hW => ⟨m', Goes.rely rw_trans h2 (hW0.rw hW)⟩) ho
  | succ m ih =>
    intro g w h h2 ho
    rcases h with h | ⟨hs, hst⟩
    · exact stop g w (fun W hW => h W (r0_all hW.1)) (fun W hW => let ⟨m', h2⟩ := h2; ⟨m', Goes.rely rw_trans h2 (hW0.rw hW)⟩) ho
    · refine .act (K := fun w1 g' w' => w' = w1 ∧ ∃ W, Fine ph W ∧ Goes P false (R0 ph.tWg ph.Wg) DC0 (AMk P false ph.tWg ph.Wg (Go.ConcR.mk (.releaseMerge (stA ph.Wg))) (AMk P false ph.tWg ph.Wg (Go.ConcR.mk .disable) Nowhere)) m g' W ∧ ∃ m', Goes2 P ph m' g' W) hs
        (fun w1 p q => .idle (p.output.trans ho) fun W hO hl hC => ?_) fun w1 p q g' w' ⟨e, W, hF, hg, h3⟩ => ?_
      · obtain ⟨g', w', es, e, ⟨rfl, rfl⟩, hg⟩ := goes_elim (hst W (r0_all hl))
        refine ⟨g', e, rfl, w', ⟨hl, hC⟩, hg, ?_⟩
        obtain ⟨m', q2⟩ := h2
        have q2' : Goes2 P ph m' g w' := Goes.rely rw_trans q2 (hW0.rw ⟨hl, hC⟩)
        rcases q2'.cases ⟨hl, hC⟩ e with ⟨_, _, g2, e2, _⟩ | ⟨q3, _⟩
        · rw [e] at e2; simp at e2
        · exact q3
      · subst e
        exact ih hF g' w' hg h3 (p.output.trans ho)

/-- A worker that has found the channel closed: into Done, and away. -/
theorem done_run (H : WgLib P L) (hty : ph.tWg = L.tWg) {c : Frame} {cs : List Frame} {qt : Nat} (hcm : c.mode = .returning) (hT : QuitsD P qt 0 (Conc.G c cs)) (hCW : ph.C ≠ ph.Wg) {w : World} (hw : w.output = gho 2 0 0) :
    Run1 P false B (WAc P ph) Z (Conc.G ((baseD L.done).at ⟨#[.pointer (some ⟨ph.Wg, 0, none⟩), undef, undef, undef], []⟩ [.code (body_done L)]) (c :: cs)) w := by
  obtain ⟨W0, hW0⟩ : ∃ W0, Fine ph W0 := by
    refine ⟨{ w with heap := (((Array.replicate (ph.Wg + ph.C + 1) poison).setIfInBounds ph.Wg (wgBlock ph.tWg 0 0)).setIfInBounds ph.C (.cells #[ph.cv] ph.cty)) }, ⟨0, 0, ?_⟩, ?_⟩
    · show (((Array.replicate (ph.Wg + ph.C + 1) poison).setIfInBounds ph.Wg (wgBlock ph.tWg 0 0)).setIfInBounds ph.C (.cells #[ph.cv] ph.cty))[ph.Wg]? = _
      rw [Array.getElem?_setIfInBounds_ne hCW, Array.getElem?_setIfInBounds_self_of_lt (by simp; omega)]
    · show (((Array.replicate (ph.Wg + ph.C + 1) poison).setIfInBounds ph.Wg (wgBlock ph.tWg 0 0)).setIfInBounds ph.C (.cells #[ph.cv] ph.cty))[ph.C]? = _
      rw [Array.getElem?_setIfInBounds_self_of_lt (by simp; omega)]
  have hc0 : W0.cell? ⟨ph.C, 0, none⟩ = some ph.cv := by unfold World.cell?; rw [show W0.heap[ph.C]? = _ from hW0.2]; simp
  obtain ⟨m, hm⟩ := relW H (Wg := ph.Wg) (cs := c :: cs) W0 (by rw [← hty]; exact hW0.1)
  rw [← hty] at hm
  have hd := @doneN ⟨ph.cty⟩ L P H NoL NoL ph.Wg ph.C 1 0 1 ph.cv c cs qt hcm hT W0 ⟨by rw [← hty]; exact hW0.1, hc0⟩
  rw [← hty] at hd
  exact rel_run hW0 m _ w hm ⟨23, hd⟩ hw
end
end Go.Tx
