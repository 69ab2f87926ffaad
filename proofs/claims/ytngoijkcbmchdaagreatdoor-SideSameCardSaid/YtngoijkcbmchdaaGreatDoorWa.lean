/- The library's calls in company, as calls of the engine: Add(1), Wait; the way into Done. -/
import Derived.Test.YtngoijkcbmchdaaGreatDoorWh
import Derived.Test.YtngoijkcbmchdaaGreatDoorAc
set_option linter.unusedVariables false
set_option linter.unusedSimpArgs false
namespace Go.Tx
open Go.Conc Go.ConcN Go.Conc.Lib
open Go.ConcR (KK wgBlock WgAt stA smA rd wr DC0)

/-- Some world in which the group's block is one. -/
theorem live_one (ty : TypeId) (Wg : Nat) (w : World) : WgLive ty Wg { w with heap := (Array.replicate Wg poison).push (wgBlock ty 0 0) } :=
  ⟨0, 0, by unfold WgAt; show ((Array.replicate Wg poison).push (wgBlock ty 0 0))[Wg]? = _; rw [Array.getElem?_push]; simp⟩

section
variable {P : Program} {ph : Ph} {main : Bool} {B : Nat} {Ac : Acs} {Z : Goroutine → World → Prop} {a b c : Nat}

theorem r0_all {ty : TypeId} {Wg : Nat} {W W' : World} (h : WgLive ty Wg W') : R0 ty Wg W W' := fun _ => h
theorem way_all {S : Goroutine → World → Prop} {g : Goroutine} {W W' : World} {ty : TypeId} {Wg : Nat} (h : Way P main ty Wg S g W) (hl : WgLive ty Wg W) (hW : WgLive ty Wg W') : Way P main ty Wg S g W' :=
  let ⟨m, hm⟩ := h; ⟨m, hm.rely (fun _ _ _ p q => fun x => q (p x)) (r0_all hW)⟩

/-- Along a way of the library's, by idle steps. -/
theorem way_run {S : Goroutine → World → Prop} (hid : ∀ (g : Goroutine) (w1 : World) (K : Goroutine → World → Prop), w1.output = gho a b c → Does P ph main g w1 (fun _ => True) id #[] (fun g' => K g' w1) → Ac main g w1 K) {W0 : World} (hW0 : WgLive ph.tWg ph.Wg W0) :
    ∀ (m : Nat) (g : Goroutine) (w : World), Goes P main (R0 ph.tWg ph.Wg) DC0 S m g W0 → w.output = gho a b c →
      (∀ g w1, Push w w1 → w1.output = gho a b c → (∀ W, WgLive ph.tWg ph.Wg W → S g W) → Run1 P main B Ac Z g w1) → Run1 P main B Ac Z g w := by
  intro m
  induction m generalizing W0 with
  | zero => exact fun g w h ho hS => hS g w (Push.refl w) ho fun W hW => h W (r0_all hW)
  | succ m ih =>
    intro g w h ho hS
    rcases h with h | ⟨hs, hst⟩
    · exact hS g w (Push.refl w) ho fun W hW => h W (r0_all hW)
    · refine .act (K := fun w1 g' w' => w' = w1 ∧ ∃ W, WgLive ph.tWg ph.Wg W ∧ Goes P main (R0 ph.tWg ph.Wg) DC0 S m g' W) hs (fun w1 p q => hid g w1 _ (p.output.trans ho) fun W hO hl _ => ?_) fun w1 p q g' w' ⟨e, W, hl, hg⟩ => ?_
      · obtain ⟨g', w', es, e, ⟨rfl, rfl⟩, hg⟩ := goes_elim (hst W (r0_all hl))
        exact ⟨g', e, rfl, w', hl, hg⟩
      · subst e
        exact ih hl g' w' hg (p.output.trans ho) fun g2 w2 p2 o2 h2 => hS g2 w2 (p.trans p2) o2 h2
theorem way_run' {S : Goroutine → World → Prop} (hid : ∀ (g : Goroutine) (w1 : World) (K : Goroutine → World → Prop), w1.output = gho a b c → Does P ph main g w1 (fun _ => True) id #[] (fun g' => K g' w1) → Ac main g w1 K) {W0 : World} (hW0 : WgLive ph.tWg ph.Wg W0)
    {g : Goroutine} {w : World} (h : Way P main ph.tWg ph.Wg S g W0) (ho : w.output = gho a b c) (hS : ∀ g w1, Push w w1 → w1.output = gho a b c → (∀ W, WgLive ph.tWg ph.Wg W → S g W) → Run1 P main B Ac Z g w1) : Run1 P main B Ac Z g w :=
  let ⟨m, hm⟩ := h; way_run hid hW0 m g w hm ho hS

/-- At a word of the library's. -/
theorem mk_run {e : Event} {S : Goroutine → World → Prop} {V : World → World} {g : Goroutine} {w : World} (W0 : World) (hW0 : WgLive ph.tWg ph.Wg W0) (h : ∀ W, WgLive ph.tWg ph.Wg W → AMk P main ph.tWg ph.Wg e S g W)
    (hact : ∀ (w1 : World) (K : Goroutine → World → Prop), Push w w1 → NoView w1 → Does P ph main g w1 (fun _ => True) id #[e] (fun g' => K g' (V w1)) → Ac main g w1 K)
    (hS : ∀ g' w1 W, Push w w1 → NoView w1 → WgLive ph.tWg ph.Wg W → Way P main ph.tWg ph.Wg S g' W → Run1 P main B Ac Z g' (V w1)) : Run1 P main B Ac Z g w := by
  refine .act (K := fun w1 g' w' => w' = V w1 ∧ ∃ W, WgLive ph.tWg ph.Wg W ∧ Way P main ph.tWg ph.Wg S g' W) (h W0 hW0).1 (fun w1 p q => hact w1 _ p q fun W hO hl _ => ?_) fun w1 p q g' w' ⟨e', W, hl, hg⟩ => ?_
  · obtain ⟨_, g', e1, e2⟩ := h W hl
    exact ⟨g', e1, rfl, W, hl, e2⟩
  · subst e'; exact hS g' w1 W p q hl hg

theorem setSt_live {ty : TypeId} {Wg : Nat} {W : World} {st sm : Int} (h : WgAt ty Wg W st sm) (v : Int) : WgLive ty Wg (W.setCell (stA Wg) (.int .u64 v)) := ⟨_, _, h.setSt v⟩
theorem setSm_live {ty : TypeId} {Wg : Nat} {W : World} {st sm : Int} (h : WgAt ty Wg W st sm) (v : Int) : WgLive ty Wg (W.setCell (smA Wg) (.int .u32 v)) := ⟨_, _, h.setSm v⟩

/-- On the way out of a function that hands back nothing. -/
theorem out_run {f : FuncId} {fn : Func} {cs : List Frame} {g : Goroutine} {w' : World} {R : Ending → World → Prop} (hf : P.funcs[f]? = some fn) (hr : fn.results = #[]) (W0 : World) (hW0 : WgLive ph.tWg ph.Wg W0) (h : ∀ W, WgLive ph.tWg ph.Wg W → AOut f cs g W) (hR : R (.returned (.tuple #[])) w')
    (hz : ∀ v w' fr fn, R (.returned v) w' → fr.mode = .returning → fr.defers = [] → fr.kind = .normal → P.funcs[fr.fn]? = some fn →
      (∀ w1, Push w' w1 → (results fn fr.tmps).run P w1 = .ok v w1) → Syn P (fun _ => False) (fun _ => False) (results fn fr.tmps) → Run1 P main B Ac Z (G fr cs) w') : Run1 P main B Ac Z g w' := by
  obtain ⟨T, todo, rfl⟩ := h W0 hW0
  have e : results fn T = pure (.tuple #[]) := by unfold results; rw [hr]; simp
  exact hz _ _ _ fn hR rfl rfl rfl hf (fun w1 _ => by show (results fn T).run P w1 = _; rw [e]; rfl) (by show Syn P _ _ (results fn T); rw [e]; trivial)
end

/-- As pushed, but for what is said. -/
def Psh (w v : World) : Prop := Push w { v with output := w.output }
theorem Psh.refl (w : World) : Psh w w := Push.refl w
theorem Psh.push {w u v : World} (h : Psh w u) (p : Push u v) : Psh w v := Push.trans h ⟨p.os, p.tape, rfl, p.size, p.old, p.new⟩
theorem Psh.say {w u : World} (h : Psh w u) (a b c : Nat) : Psh w (u.say a b c) := h
theorem Psh.of {w u : World} (h : Psh w u) (a b c : Nat) (ho : u.output = gho a b c) : ∃ w1, Push w w1 ∧ u = w1.say a b c := ⟨_, h, by show u = { u with output := gho a b c }; rw [← ho]⟩

section
variable {P : Program} {L : WgLink} {ph : Ph} {B B' : Nat}

theorem idleM {main : Bool} {Ac : Acs} (hA : (MAc P ph B').le Ac) {a b c : Nat} (ha : a ≤ 17) : ∀ (g : Goroutine) (w1 : World) (K : Goroutine → World → Prop), w1.output = gho a b c → Does P ph main g w1 (fun _ => True) id #[] (fun g' => K g' w1) → Ac main g w1 K :=
  fun g w1 K ho h => hA _ _ _ _ (.idle ho ha h)

/-- all.Add(1), in company. -/
theorem add_calls (H : WgLib P L) (hty : ph.tWg = L.tWg) (hn : ph.n < 2147483648) {j : Nat} (hj : j < ph.n) {w : World} (hw : w.output = gho 0 j 0) :
    CallsS P B (MAc P ph B') L.add #[.pointer (some ⟨ph.Wg, 0, none⟩), .int .i64 1] w fun e w' => e = .returned (.tuple #[]) ∧ ∃ w1, Push w w1 ∧ w' = w1.say 3 j 0 := by
  intro main Ac hA cs Z hz
  have hl0 := live_one ph.tWg ph.Wg w
  have h0 := add1W H (main := main) (cs := cs) _ (by rw [← hty]; exact hl0)
  rw [← hty] at h0
  refine way_run' (idleM hA (by omega)) hl0 h0 hw fun g1 w1 p1 o1 s1 => ?_
  refine mk_run (V := fun w => w.say 1 j 0) _ hl0 s1 (fun w2 K p q hd => hA _ _ _ _ (.dis (p.output.trans o1) hj hd)) fun g2 w2 W2 p2 q2 hl2 s2 => ?_
  refine way_run' (a := 1) (b := j) (c := 0) (idleM hA (by omega)) hl2 s2 rfl fun g3 w3 p3 o3 s3 => ?_
  have ps2 : Psh w (w2.say 1 j 0) := (((Psh.refl w).push p1).push p2).say _ _ _
  have enable : ∀ (g : Goroutine) (w4 : World) (W : World), w4.output = gho 2 j 0 → Psh w w4 → WgLive ph.tWg ph.Wg W → Way P main ph.tWg ph.Wg (AMk P main ph.tWg ph.Wg (Go.ConcR.mk .enable) (AOut L.add cs)) g W → Run1 P main B Ac Z g w4 := by
    intro g w4 W o4 ps4 hl s4
    refine way_run' (a := 2) (b := j) (c := 0) (idleM hA (by omega)) hl s4 o4 fun g5 w5 p5 o5 s5 => ?_
    refine mk_run (V := fun w => w.say 3 j 0) _ hl0 s5 (fun w6 K p q hd => hA _ _ _ _ (.en (p.output.trans o5) hd)) fun g6 w6 W6 p6 q6 hl6 s6 => ?_
    refine way_run' (a := 3) (b := j) (c := 0) (idleM hA (by omega)) hl6 s6 rfl fun g7 w7 p7 o7 s7 => ?_
    refine out_run (R := fun e w' => e = .returned (.tuple #[]) ∧ ∃ w1, Push w w1 ∧ w' = w1.say 3 j 0) H.f_add rfl _ hl0 s7 ?_ hz
    exact ⟨rfl, ((((ps4.push p5).push p6).say 3 j 0).push p7).of 3 j 0 o7⟩
  -- the atomic add
  have hv : j < 2147483647 := by omega
  refine .act (K := fun w4 g' w' => w' = w4.say 2 j 0 ∧ ∃ W, WgLive ph.tWg ph.Wg W ∧ ((j = 0 → Way P main ph.tWg ph.Wg (AMk P main ph.tWg ph.Wg ⟨.mark (.read (smA ph.Wg)), false, true⟩ (AMk P main ph.tWg ph.Wg (Go.ConcR.mk .enable) (AOut L.add cs))) g' W) ∧ (j ≠ 0 → Way P main ph.tWg ph.Wg (AMk P main ph.tWg ph.Wg (Go.ConcR.mk .enable) (AOut L.add cs)) g' W))) (s3 _ hl0).1
    (fun w4 p4 q4 => hA _ _ _ _ (.add (p4.output.trans o3) fun W hO hl hwg => ?_)) fun w4 p4 q4 g' w' hK => ?_
  · obtain ⟨_, hall⟩ := s3 W hl
    obtain ⟨g', e1, e2, e3⟩ := hall j hv hwg
    exact ⟨g', e1, rfl, _, setSt_live hwg _, e2, e3⟩
  · obtain ⟨rfl, W, hl, h1, h2⟩ := hK
    have ps4 : Psh w (w4.say 2 j 0) := ((ps2.push p3).push p4).say _ _ _
    by_cases h0 : j = 0
    · refine way_run' (a := 2) (b := j) (c := 0) (idleM hA (by omega)) hl (h1 h0) rfl fun g5 w5 p5 o5 s5 => ?_
      refine mk_run (V := fun w => w) _ hl0 s5 (fun w6 K p q hd => hA _ _ _ _ (.said (p.output.trans o5) hd)) fun g6 w6 W6 p6 q6 hl6 s6 => ?_
      exact enable g6 w6 W6 (p6.output.trans o5) ((ps4.push p5).push p6) hl6 s6
    · exact enable g' _ W rfl ps4 hl (h2 h0)

/-- all.Wait(), in company: behind it the results are the starter's own. -/
def joinV (ph : Ph) (w : World) : World := { w with heap := w.heap.setIfInBounds ph.ob (.cells (allOf ph.F ph.N) ph.ety), output := gho 17 0 0 }
theorem wait_calls (H : WgLib P L) (hty : ph.tWg = L.tWg) (hn : ph.n < 2147483648) {w : World} (hw : w.output = gho 10 0 0) :
    CallsS P B (MAc P ph B') L.wait #[.pointer (some ⟨ph.Wg, 0, none⟩)] w fun e w' => e = .returned (.tuple #[]) ∧ ∃ w1, Push w w1 ∧ Push (joinV ph w1) w' := by
  intro main Ac hA cs Z hz
  have hl0 := live_one ph.tWg ph.Wg w
  -- the end: enable, acquire, out
  have over : ∀ (g : Goroutine) (w4 W : World), w4.output = gho 14 0 0 → Psh w w4 → WgLive ph.tWg ph.Wg W → Way P main ph.tWg ph.Wg (AOver P main L ph.Wg cs) g W → Run1 P main B Ac Z g w4 := by
    intro g w4 W o4 pv hl s4
    refine way_run' (a := 14) (b := 0) (c := 0) (idleM hA (by omega)) hl s4 o4 fun g5 w5 p5 o5 s5 => ?_
    have s5' : ∀ W, WgLive ph.tWg ph.Wg W → AMk P main ph.tWg ph.Wg (Go.ConcR.mk .enable) (AMk P main ph.tWg ph.Wg (Go.ConcR.mk (.acquire (stA ph.Wg))) (AOut L.wait cs)) g5 W := by rw [hty]; unfold AOver at s5; rw [hty] at s5; exact s5
    refine mk_run (V := fun w => w.say 16 0 0) _ hl0 s5' (fun w6 K p q hd => hA _ _ _ _ (.enW (p.output.trans o5) hd)) fun g6 w6 W6 p6 q6 hl6 s6 => ?_
    refine way_run' (a := 16) (b := 0) (c := 0) (idleM hA (by omega)) hl6 s6 rfl fun g7 w7 p7 o7 s7 => ?_
    refine mk_run (V := joinV ph) _ hl0 s7 (fun w8 K p q hd => hA _ _ _ _ (.joined (p.output.trans o7) hd)) fun g8 w8 W8 p8 q8 hl8 s8 => ?_
    refine way_run' (a := 17) (b := 0) (c := 0) (idleM hA (by omega)) hl8 s8 rfl fun g9 w9 p9 o9 s9 => ?_
    refine out_run (R := fun e w' => e = .returned (.tuple #[]) ∧ ∃ w1, Push w w1 ∧ Push (joinV ph w1) w') H.f_wait rfl _ hl0 s9 ?_ hz
    exact ⟨rfl, { w8 with output := w.output }, ((((pv.push p5).push p6).say 16 0 0).push p7).push p8, p9⟩
  -- the loop, by the bound
  have head : ∀ (n : Nat) (g : Goroutine) (w4 : World), n ≤ ph.n → w4.output = gho 11 n 0 → Psh w w4 → (∀ W, AHead L ph.Wg cs g W) → Run1 P main B Ac Z g w4 := by
    intro n
    induction n using Nat.strongRecOn with
    | _ n ih =>
      intro g w4 hle o4 pv hh
      have s4 := waitRoundW H (main := main) g _ (hh _) (by rw [← hty]; exact hl0)
      rw [← hty] at s4
      refine way_run' (a := 11) (b := n) (c := 0) (idleM hA (by omega)) hl0 s4 o4 fun g5 w5 p5 o5 s5 => ?_
      refine .act (K := fun w6 g' w' => ∃ v W, v ≤ n ∧ WgLive ph.tWg ph.Wg W ∧ ((v = 0 ∧ w' = w6.say 14 0 0 ∧ Way P main ph.tWg ph.Wg (AOver P main L ph.Wg cs) g' W) ∨ (v ≠ 0 ∧ w' = w6.say 12 v 0 ∧ Way P main ph.tWg ph.Wg (ACas P main ph.tWg ph.Wg (AHit P main L ph.Wg cs) (AHead L ph.Wg cs) v) g' W))) (s5 _ hl0).1
        (fun w6 p6 q6 => hA _ _ _ _ (.load (p6.output.trans o5) fun v hv W hO hl hwg => ?_)) fun w6 p6 q6 g' w' hK => ?_
      · obtain ⟨_, hall⟩ := s5 W hl
        obtain ⟨g', e1, e2, e3⟩ := hall v (by omega) hwg
        exact ⟨g', e1, fun h0 => ⟨v, W, hv, hl, .inl ⟨h0, rfl, e2 h0⟩⟩, fun h0 => ⟨v, W, hv, hl, .inr ⟨h0, rfl, e3 h0⟩⟩⟩
      · obtain ⟨v, W, hv, hl, ⟨_, rfl, s6⟩ | ⟨hv0, rfl, s6⟩⟩ := hK
        · exact over g' _ W rfl (((pv.push p5).push p6).say 14 0 0) hl s6
        · have pv6 : Psh w (w6.say 12 v 0) := ((pv.push p5).push p6).say _ _ _
          refine way_run' (a := 12) (b := v) (c := 0) (idleM hA (by omega)) hl s6 rfl fun g7 w7 p7 o7 s7 => ?_
          refine .act (K := fun w8 g' w' => (∃ W, WgLive ph.tWg ph.Wg W ∧ w' = w8.say 13 0 0 ∧ Way P main ph.tWg ph.Wg (AHit P main L ph.Wg cs) g' W) ∨ ∃ u W, u < v ∧ WgLive ph.tWg ph.Wg W ∧ w' = w8.say 11 u 0 ∧ Way P main ph.tWg ph.Wg (AHead L ph.Wg cs) g' W) (s7 _ hl0).1
            (fun w8 p8 q8 => hA _ _ _ _ (.cas (p8.output.trans o7) (fun W hO hl hwg => ?_) fun u hu W hO hl hwg => ?_)) fun w8 p8 q8 g' w' hK => ?_
          · obtain ⟨_, hh, _⟩ := s7 W hl
            obtain ⟨g', e1, e2⟩ := hh hwg
            exact ⟨g', e1, .inl ⟨_, setSt_live hwg _, rfl, e2⟩⟩
          · obtain ⟨_, _, hm⟩ := s7 W hl
            obtain ⟨g', e1, e2⟩ := hm u hu hwg
            exact ⟨g', e1, .inr ⟨u, W, hu, hl, rfl, e2⟩⟩
          · have pv8 : Psh w w8 := (pv6.push p7).push p8
            rcases hK with ⟨W8, hl8, rfl, s8⟩ | ⟨u, W8, hu, hl8, rfl, s8⟩
            · refine way_run' (a := 13) (b := 0) (c := 0) (idleM hA (by omega)) hl8 s8 rfl fun g9 w9 p9 o9 s9 => ?_
              have s9' : ∀ W, WgLive ph.tWg ph.Wg W → AMk P main ph.tWg ph.Wg ⟨.mark (.write (smA ph.Wg)), false, true⟩ (AAcq P main ph.tWg ph.Wg (ALoad0 P main ph.tWg ph.Wg (AOver P main L ph.Wg cs))) g9 W := by rw [hty]; unfold AHit at s9; rw [hty] at s9; exact s9
              refine mk_run (V := fun w => w) _ hl0 s9' (fun wa K p q hd => hA _ _ _ _ (.saidW (p.output.trans o9) hd)) fun ga wa Wa pa qa hla sa => ?_
              have oa := pa.output.trans o9
              refine way_run' (a := 13) (b := 0) (c := 0) (idleM hA (by omega)) hla sa oa fun gb wb pb ob sb => ?_
              have pvb : Psh w wb := (((pv8.say 13 0 0).push p9).push pa).push pb
              refine .act (K := fun wc g' w' => w' = wc.say 15 0 0 ∧ ∃ W, WgLive ph.tWg ph.Wg W ∧ Way P main ph.tWg ph.Wg (ALoad0 P main ph.tWg ph.Wg (AOver P main L ph.Wg cs)) g' W) (sb _ hl0).1
                (fun wc pc qc => hA _ _ _ _ (.acq (pc.output.trans ob) (sb _ hl0).2.1 (fun W st hO hwg => (sb W ⟨_, _, hwg⟩).2.2.1 st hwg) fun W hO hl hwg => ?_)) fun wc pc qc g' w' ⟨e, W, hl, sc⟩ => ?_
              · obtain ⟨g', e1, e2⟩ := (sb W hl).2.2.2 hwg
                exact ⟨g', e1, rfl, _, setSm_live hwg _, e2⟩
              · subst e
                refine way_run' (a := 15) (b := 0) (c := 0) (idleM hA (by omega)) hl sc rfl fun gd wd pd od sd => ?_
                refine .act (K := fun we g' w' => w' = we.say 14 0 0 ∧ ∃ W, WgLive ph.tWg ph.Wg W ∧ Way P main ph.tWg ph.Wg (AOver P main L ph.Wg cs) g' W) (sd _ hl0).1
                  (fun we pe qe => hA _ _ _ _ (.load0 (pe.output.trans od) fun W hO hl hwg => ?_)) fun we pe qe g' w' ⟨e, W, hl, se⟩ => ?_
                · obtain ⟨g', e1, e2⟩ := (sd W hl).2 hwg
                  exact ⟨g', e1, rfl, W, hl, e2⟩
                · subst e
                  exact over g' _ W rfl ((((((pvb.push pc).say 15 0 0).push pd).push pe)).say 14 0 0) hl se
            · refine way_run' (a := 11) (b := u) (c := 0) (idleM hA (by omega)) hl8 s8 rfl fun g9 w9 p9 o9 s9 => ?_
              exact ih u (by omega) g9 w9 (by omega) o9 ((pv8.say 11 u 0).push p9) fun W => let ⟨T, h1, h2⟩ := s9 _ hl0; ⟨T, h1, h2⟩
  have h0 := waitStartW H (main := main) (cs := cs) _ (by rw [← hty]; exact hl0)
  rw [← hty] at h0
  refine way_run' (idleM hA (by omega)) hl0 h0 hw fun g1 w1 p1 o1 s1 => ?_
  refine mk_run (V := fun w => w.say 11 ph.n 0) _ hl0 s1 (fun w2 K p q hd => hA _ _ _ _ (.disW (p.output.trans o1) hd)) fun g2 w2 W2 p2 q2 hl2 s2 => ?_
  refine way_run' (a := 11) (b := ph.n) (c := 0) (idleM hA (by omega)) hl2 s2 rfl fun g3 w3 p3 o3 s3 => ?_
  exact head ph.n g3 w3 (Nat.le_refl _) o3 (((((Psh.refl w).push p1).push p2).say 11 ph.n 0).push p3) fun W => let ⟨T, h1, h2⟩ := s3 _ hl0; ⟨T, h1, h2⟩
end
end Go.Tx
