import Derived.Test.YtjpdpeaolkclfaaNet
import Derived.Test.YtjpdpeaolkclfaaRow
namespace Go.Proofs.Ytjpdpeaolkclfaa
open Go.Tx
set_option linter.unusedVariables false
set_option linter.unusedSimpArgs false

open Go.RowKit
/-! ### Cells of the immutable heap that lie in new blocks may be turned -/
def Mem.upd (G : Mem) (b o : Nat) (v : Value) : Mem := fun b' o' => if b' = b ∧ o' = o then some v else G b' o'
theorem upd_same (G : Mem) (b o : Nat) (v : Value) : Mem.upd G b o v b o = some v := by unfold Mem.upd; rw [if_pos ⟨rfl, rfl⟩]
theorem upd_other {G : Mem} {b o : Nat} {v : Value} {b' o' : Nat} (h : ¬ (b' = b ∧ o' = o)) : Mem.upd G b o v b' o' = G b' o' := by unfold Mem.upd; rw [if_neg h]
theorem le_upd {A G : Mem} {b o : Nat} (h : Mem.le A G) (h0 : A b o = none) (v : Value) : Mem.le A (Mem.upd G b o v) := by
  intro b' o' u hu
  rw [upd_other]
  · exact h _ _ _ hu
  · rintro ⟨rfl, rfl⟩; rw [h0] at hu; cases hu
theorem out_le {A G : Mem} (h : Mem.le A G) {b o : Nat} (h0 : G b o = none) : A b o = none := by
  cases ha : A b o with
  | none => rfl
  | some u => have := h _ _ _ ha; rw [h0] at this; cases this
theorem St.stT {w0 w : World} {G0 G : Mem} {L : List (List Seg)} (h : St w0 G0 w G L) {b o : Nat} {u : Value} (hc : G b o = some u) (h0 : G0 b o = none) (v : Value) : w.frozen? ⟨b, o, none⟩ = false ∧ St w0 G0 (w.setCell ⟨b, o, none⟩ v) (Mem.upd G b o v) L := by
  obtain ⟨hb, hfz⟩ : w0.heap.size ≤ b ∧ w.frozen? ⟨b, o, none⟩ = false := by
    rcases h.fresh b o u hc with h1 | h1
    · rw [h0] at h1; cases h1
    · exact h1
  have hcell := h.mem _ _ _ hc
  refine ⟨hfz, h.below.setCell (p := ⟨b, o, none⟩) hb v, fun b' o' v' hv => ?_, le_upd h.grow h0 v, fun b' o' v' hv => ?_, fun s hs => ?_, h.apart⟩
  · by_cases e : b' = b ∧ o' = o
    · obtain ⟨rfl, rfl⟩ := e
      rw [upd_same] at hv
      rw [World.cell?_setCell_same _ _ _ hcell]; exact hv
    · rw [upd_other e] at hv
      rw [World.cell?_setCell_other]
      · exact h.mem _ _ _ hv
      · intro hh; cases hh; exact e ⟨rfl, rfl⟩
  · rw [World.frozen?_setCell]
    by_cases e : b' = b ∧ o' = o
    · obtain ⟨rfl, rfl⟩ := e; exact .inr ⟨hb, hfz⟩
    · rw [upd_other e] at hv; exact h.fresh _ _ _ hv
  · obtain ⟨o1, o2, o3, o4⟩ := h.own s hs
    refine ⟨o1, fun i x hx => ?_, fun x hx => ?_, fun e he => ⟨(o4 e he).1, shape_setCell (o4 e he).2⟩⟩
    · obtain ⟨q1, q2, q3⟩ := o2 i x hx
      have hne : ¬ (s.b = b ∧ s.off + i = o) := by rintro ⟨rfl, rfl⟩; rw [q3] at hc; cases hc
      refine ⟨?_, by rw [World.frozen?_setCell]; exact q2, by rw [upd_other hne]; exact q3⟩
      rw [World.cell?_setCell_other]
      · exact q1
      · intro hh; cases hh; exact hne ⟨rfl, rfl⟩
    · obtain ⟨q1, q2, q3⟩ := o3 x hx
      have hne : s.b ≠ b := by
        intro hh; rw [hh] at q2
        have := cell_not_ob hcell q2
        rw [q1] at this; cases this
      exact ⟨q1, (Below.heap_setCell _ _ _ _ hne).trans q2, q3⟩
theorem runL_stT {C : Cx} {Q : Exit → Act → World → Prop} {fr : List (Nat × Value)} {G : Mem} {L : List (List Seg)} {ops : Array Oper} {rest : List Oper} {o : Oper} {p q : Nat} (v u : Value) (hg : G p q = some u) (h0 : C.G0 p q = none)
    (h : RunL C ops Q rest fr (Mem.upd G p q v) L)
    (hc : (chkSt C.P ops fr o 1, v.cells.toList, v.oneCell') = (some (Pt p q, v), [v], true) := by as_aux_lemma => kernel_rfl) : RunL C ops Q (o :: rest) fr G L := by
  intro a w ha hw
  simp only [Prod.mk.injEq] at hc
  obtain ⟨hc, hvs, hone⟩ := hc
  unfold chkSt at hc
  split at hc
  case h_2 => cases hc
  rename_i t x y hop
  cases hx : (o.dst.isNone && wantB true (wantedF ops fr o) && cov fr x && cov fr y && (C.P.info? t).isSome && Nat.beq (C.P.cellsOf t) 1) with
  | false => rw [hx] at hc; cases hc
  | true =>
    rw [hx] at hc
    simp only [cond_true, Option.some.injEq, Prod.mk.injEq] at hc
    simp only [Bool.and_eq_true, Option.isNone_iff_eq_none] at hx
    obtain ⟨⟨⟨⟨⟨hd, hwt⟩, hcx⟩, hcy⟩, hinf⟩, hsz⟩ := hx
    have hsz' := Nat.eq_of_beq_eq_true hsz
    have hwant : wantedF ops fr o = some true := by
      cases hx : wantedF ops fr o with
      | none => rw [hx] at hwt; simp [wantB] at hwt
      | some b => rw [hx] at hwt; simp [wantB] at hwt; rw [← hwt]
    obtain ⟨hfz, hS⟩ := St.stT hw hg h0 v
    have hl := run_storeVar_seg (P := C.P) (t := t) (w := w) (b := p) (off := q) (v := v) hinf (by rw [hvs, hsz']; rfl) (by rw [hvs]; simpa using hone)
      (fun j hj => by rw [hvs] at hj; have : j = 0 := by simp at hj; exact hj
                      subst this; exact ⟨_, hw.mem _ _ _ hg⟩)
      (fun j hj => by rw [hvs] at hj; have : j = 0 := by simp at hj; exact hj
                      subst this; exact hfz)
    rw [hvs] at hl
    have hE : a.eval x = .pointer (some ⟨p, q, none⟩) := (ha.eval x hcx).trans hc.1
    have hE' : a.eval y = v := (ha.eval y hcy).trans hc.2
    unfold wpList
    rw [if_pos (wantedF_eq ha hwant)]
    refine .inl ?_
    unfold Oper.wp execOp
    simp only [hop, hE, hE', Instr.storeAt, Instr.sureAddr, Sem.run_bind, Sem.run_pure, Result.andThen_ok, hl]
    show wpList C.P ops Q rest (a.put o.dst undef) _
    rw [hd]
    exact h _ _ ha hS
theorem runL_know {C : Cx} {Q : Exit → Act → World → Prop} {fr : List (Nat × Value)} {G : Mem} {L : List (List Seg)} {ops : Array Oper} {rest : List Oper} {p : Prop} (hp : ∀ w, St C.w0 C.G0 w G L → p) (h : p → RunL C ops Q rest fr G L) : RunL C ops Q rest fr G L := fun a w ha hw => h (hp w hw) a w ha hw
theorem tq_know {C : Cx} {Q : Exit → Act → World → Prop} {fr : List (Nat × Value)} {G : Mem} {L : List (List Seg)} {e : Exit} {p : Prop} (hp : ∀ w, St C.w0 C.G0 w G L → p) (h : p → TQ C Q e fr G L) : TQ C Q e fr G L := fun a w ha hw => h (hp w hw) a w ha hw
/-- The cells of a row that is owned are not of the immutable heap. -/
theorem TRow.out {α : Type} {E : Elt α} {G : Mem} {a : Option Addr} {c : Nat} {l : List α} {r : List Seg} (hr : TRow E G a c l r) {w0 w : World} {G0 : Mem} {L : List (List Seg)} {i : Nat} (hw : St w0 G0 w G L) (hi : L[i]? = some r) : ∀ ad, a = some ad → ∀ j, j < l.length * E.sz → G ad.block (ad.off + j) = none := by
  obtain ⟨css, h1, h2, h3⟩ := hr.ex
  intro ad ha j hj
  rcases h3.shape with ⟨e, _⟩ | ⟨b, off, spare, e, rfl, _⟩
  · rw [ha] at e; cases e
  · rw [ha] at e; cases e
    have hm : (Sg b off (css.flatten ++ spare)) ∈ L.flatten := by
      obtain ⟨hl, he⟩ := List.getElem?_eq_some_iff.1 hi
      exact List.mem_flatten.2 ⟨_, List.getElem_mem hl, by rw [he]; simp⟩
    have hlen := h3.len
    obtain ⟨_, ho, _⟩ := hw.own _ hm
    exact (ho j _ (List.getElem?_eq_getElem (by simp only [List.length_append]; omega))).2.2
/-- Cells of integers, one of each element: they may be turned, for they lie outside of A. -/
def IR (A G : Mem) (ik : IntKind) (a : Option Addr) (n sz f : Nat) : Prop := (a = none → n = 0) ∧ ∀ ad, a = some ad → (0 < n → ad.spot = none) ∧ ∀ k, k < n → (∃ y, G ad.block (ad.off + k * sz + f) = some (.int ik y)) ∧ A ad.block (ad.off + k * sz + f) = none
theorem IR.mono {A G G' : Mem} {ik : IntKind} {a : Option Addr} {n sz f : Nat} (h : IR A G ik a n sz f) (hle : Mem.le G G') : IR A G' ik a n sz f :=
  ⟨h.1, fun ad ha => ⟨(h.2 ad ha).1, fun k hk => by obtain ⟨⟨y, hy⟩, h2⟩ := (h.2 ad ha).2 k hk; exact ⟨⟨y, hle _ _ _ hy⟩, h2⟩⟩⟩
theorem IR.base {A B G : Mem} {ik : IntKind} {a : Option Addr} {n sz f : Nat} (h : IR B G ik a n sz f) (hle : Mem.le A B) : IR A G ik a n sz f :=
  ⟨h.1, fun ad ha => ⟨(h.2 ad ha).1, fun k hk => by obtain ⟨h1, h2⟩ := (h.2 ad ha).2 k hk; exact ⟨h1, out_le hle h2⟩⟩⟩
theorem IR.upd {A G : Mem} {ik jk : IntKind} {a : Option Addr} {n sz f b o : Nat} {y : Int} (h : IR A G ik a n sz f) (hc : G b o = some (.int jk y)) (z : Int) : IR A (Mem.upd G b o (.int jk z)) ik a n sz f :=
  ⟨h.1, fun ad ha => ⟨(h.2 ad ha).1, fun k hk => by
    obtain ⟨⟨y', hy⟩, h2⟩ := (h.2 ad ha).2 k hk
    refine ⟨?_, h2⟩
    by_cases e : ad.block = b ∧ ad.off + k * sz + f = o
    · rw [e.1, e.2] at hy ⊢
      rw [hc] at hy; cases hy
      exact ⟨z, upd_same _ _ _ _⟩
    · exact ⟨y', by rw [upd_other e]; exact hy⟩⟩⟩
theorem IR.addr {A G : Mem} {ik : IntKind} {a : Option Addr} {n sz f k : Nat} (h : IR A G ik a n sz f) (hk : k < n) : ∃ b o, a = At b o := by
  cases a with
  | none => have := h.1 rfl; omega
  | some ad =>
    obtain ⟨b, o, s⟩ := ad
    have hs := (h.2 _ rfl).1 (by omega)
    simp only at hs; subst hs; exact ⟨b, o, rfl⟩
theorem ir_head {A G : Mem} {a : Option Addr} {c : Nat} {l : List HeadD} (h : RS EHead G a c l) (ho : ∀ ad, a = some ad → ∀ j, j < l.length * EHead.sz → A ad.block (ad.off + j) = none) : IR A G .i64 a l.length 4 3 := by
  refine ⟨fun e => ?_, fun ad ha => ⟨fun hn => h.spot ad ha (by have := h.le; omega), fun k hk => ⟨?_, ?_⟩⟩⟩
  · have := h.nil e; have := h.le; omega
  · obtain ⟨cs, h1, h2⟩ := h.elem ad ha k _ (List.getElem?_eq_getElem hk)
    obtain ⟨rfl, _⟩ := h1
    exact ⟨_, h2 3 _ rfl⟩
  · have := ho ad ha (k * 4 + 3) (by simp only [EHead]; omega)
    rwa [← Nat.add_assoc] at this
theorem ir_sides {A G : Mem} {a : Option Addr} {c : Nat} {l : List Int} (h : RS EU G a c l) (ho : ∀ ad, a = some ad → ∀ j, j < l.length * EU.sz → A ad.block (ad.off + j) = none) : IR A G .u64 a l.length 1 0 := by
  refine ⟨fun e => ?_, fun ad ha => ⟨fun hn => h.spot ad ha (by have := h.le; omega), fun k hk => ⟨?_, ?_⟩⟩⟩
  · have := h.nil e; have := h.le; omega
  · obtain ⟨cs, h1, h2⟩ := h.elem ad ha k _ (List.getElem?_eq_getElem hk)
    obtain ⟨rfl, _⟩ := h1
    exact ⟨_, h2 0 _ rfl⟩
  · have := ho ad ha (k * 1) (by simp only [EU]; omega)
    simpa using this
/-- A letter by what may be turned beneath it. -/
def EW (A : Mem) : Elt (Nat × Nat) := ⟨12, 152, fun G cs w => cs.length = 12 ∧ (∀ u ∈ cs, u.oneCell' = true) ∧ ∃ a1 c1 a2 c2, cs[4]? = some (Sl a1 w.1 c1) ∧ cs[11]? = some (Sl a2 w.2 c2) ∧ IR A G .i64 a1 w.1 4 3 ∧ IR A G .u64 a2 w.2 1 0 ∧ w.1 ≤ 9223372036854775807 ∧ w.2 ≤ 9223372036854775807,
  fun hle h => by obtain ⟨h1, h2, a1, c1, a2, c2, h3, h4, h5, h6, h7⟩ := h; exact ⟨h1, h2, a1, c1, a2, c2, h3, h4, h5.mono hle, h6.mono hle, h7⟩, fun h => h.1, fun h => h.2.1⟩
def WayOk (A G : Mem) (a : Option Addr) (ws : List (Nat × Nat)) : Prop := ∀ b o, a = At b o → ∀ (i : Nat) w, ws[i]? = some w → ∃ a1 c1 a2 c2, G b (o + i * 12 + 4) = some (Sl a1 w.1 c1) ∧ G b (o + i * 12 + 11) = some (Sl a2 w.2 c2) ∧ IR A G .i64 a1 w.1 4 3 ∧ IR A G .u64 a2 w.2 1 0 ∧ w.1 ≤ 9223372036854775807 ∧ w.2 ≤ 9223372036854775807
theorem way_of {A G : Mem} {a : Option Addr} {c : Nat} {ws : List (Nat × Nat)} (h : RS (EW A) G a c ws) : WayOk A G a ws := by
  intro b o ha i w hw
  obtain ⟨cs, h1, h2⟩ := h.elem _ ha i w hw
  obtain ⟨_, _, a1, c1, a2, c2, h3, h4, h5, h6, h7⟩ := h1
  exact ⟨a1, c1, a2, c2, h2 4 _ h3, h2 11 _ h4, h5, h6, h7⟩
theorem WayOk.upd {A G : Mem} {a : Option Addr} {ws : List (Nat × Nat)} {b o : Nat} {jk : IntKind} {y : Int} (h : WayOk A G a ws) (hc : G b o = some (.int jk y)) (z : Int) : WayOk A (Mem.upd G b o (.int jk z)) a ws := by
  intro b' o' ha i w hw
  obtain ⟨a1, c1, a2, c2, h3, h4, h5, h6, h7⟩ := h b' o' ha i w hw
  refine ⟨a1, c1, a2, c2, ?_, ?_, h5.upd hc z, h6.upd hc z, h7⟩
  · rw [upd_other]
    · exact h3
    · rintro ⟨e1, e2⟩; rw [e1, e2, hc] at h3; cases h3
  · rw [upd_other]
    · exact h4
    · rintro ⟨e1, e2⟩; rw [e1, e2, hc] at h4; cases h4
theorem one_g {G : Mem} {b o : Nat} {v : Value} (h : G b o = some v) : ∀ j u, ([v] : List Value)[j]? = some u → G b (o + j) = some u := by
  intro j u hu
  cases j with
  | zero => simp at hu; rw [← hu]; exact h
  | succ j => simp at hu
theorem TRow.ew {A B G : Mem} {a : Option Addr} {c : Nat} {ws : List (Nat × Nat)} {r : List Seg} (h : TRow (EW B) G a c ws r) (hle : Mem.le A B) : TRow (EW A) G a c ws r := by
  obtain ⟨css, h1, h2, h3⟩ := h.ex
  refine ⟨⟨css, h1, fun i x hx => ?_, h3⟩⟩
  obtain ⟨cs, p1, p2, p3, a1, c1, a2, c2, q1, q2, q3, q4, q5⟩ := h2 i x hx
  exact ⟨cs, p1, p2, p3, a1, c1, a2, c2, q1, q2, q3.base hle, q4.base hle, q5⟩

theorem own2_con (G : Mem) (vs_l : List Value) (l : LetterD) (h_l : ELetter.R G vs_l l) : Con Try.prog 14 #[.agg vs_l.toArray] G [] (fun u G' L' => ∃ a0 c0 a1 c1 a2 c2, u = .agg #[I l.to_, I l.from_, I l.since, I l.due, Sl a0 l.heads.length c0, I l.reply.head.epoch, U l.reply.head.root, U l.reply.head.prev, I l.reply.head.at_, Sr l.reply.proof.name, Sl a1 l.reply.proof.entries.length c1, Sl a2 l.reply.proof.sides.length c2] ∧ IR G G' .i64 a0 l.heads.length 4 3 ∧ IR G G' .u64 a2 l.reply.proof.sides.length 1 0 ∧ l.heads.length ≤ 9223372036854775807 ∧ l.reply.proof.sides.length ≤ 9223372036854775807 ∧ L' = []) := by
  obtain ⟨a1, c1, a2, c2, a3, c3, rfl, w1, w2, w3, w4, hs1, w5, w6, w7, w8, w9, hs2, hs3⟩ := h_l
  refine con_of Try.func14 24 [(0, .agg #[I l.to_, I l.from_, I l.since, I l.due, Sl a1 l.heads.length c1, I l.reply.head.epoch, U l.reply.head.root, U l.reply.head.prev, I l.reply.head.at_, Sr l.reply.proof.name, Sl a2 l.reply.proof.entries.length c2, Sl a3 l.reply.proof.sides.length c3])] rfl (fun w0 G0 => ?_)
  refine tc_seq ?_
  refine tc_region ?_
  refine runL_box 1 #[I l.to_, I l.from_, I l.since, I l.due, Sl a1 l.heads.length c1, I l.reply.head.epoch, U l.reply.head.root, U l.reply.head.prev, I l.reply.head.at_, Sr l.reply.proof.name, Sl a2 l.reply.proof.entries.length c2, Sl a3 l.reply.proof.sides.length c3] 36 (fun b1 => ?_)
  refine runL_box 2 #[I 0, I 0, I 0, I 0, Sl none 0 0, I 0, U 0, U 0, I 0, Sr ([]), Sl none 0 0, Sl none 0 0] 36 (fun b2 => ?_)
  refine runL_nil ?_
  refine tq_then ?_
  refine tc_seq ?_
  refine tc_region ?_
  refine runL_b [0,4] [(1, Pt b1 0), (2, Pt b2 0), (4, Sl a1 l.heads.length c1)] ?_
  refine runL_callR 5 (sclone_EHead G a1 c1 l.heads hs1) (fun v G1 L1 hl1 hp => ?_)
  obtain ⟨a4, c4, r1, rfl, hr1, rfl⟩ := hp
  refine runL_bs [0,7] [(1, Pt b1 0), (2, Pt b2 0)] [r1, [Sg b2 0 [I 0, I 0, I 0, I 0, Sl none 0 0, I 0, U 0, U 0, I 0, Sr ([]), Sl none 0 0, Sl none 0 0]], [Sg b1 0 [I l.to_, I l.from_, I l.since, I l.due, Sl a4 l.heads.length c4, I l.reply.head.epoch, U l.reply.head.root, U l.reply.head.prev, I l.reply.head.at_, Sr l.reply.proof.name, Sl a2 l.reply.proof.entries.length c2, Sl a3 l.reply.proof.sides.length c3]]] ?_
  refine runL_nil ?_
  refine tq_then ?_
  refine tc_seq ?_
  refine tc_region ?_
  refine runL_b [0,0,0,6] [(1, Pt b1 0), (2, Pt b2 0), (10, Sl a2 l.reply.proof.entries.length c2)] ?_
  refine runL_callR 11 (sclone_EEnt G1 a2 c2 l.reply.proof.entries (hs2.mono hl1)) (fun v G2 L1 hl2 hp => ?_)
  obtain ⟨a5, c5, r2, rfl, hr2, rfl⟩ := hp
  refine runL_bs [0,0,0,9] [(1, Pt b1 0), (2, Pt b2 0)] [r2, r1, [Sg b2 0 [I 0, I 0, I 0, I 0, Sl none 0 0, I 0, U 0, U 0, I 0, Sr ([]), Sl none 0 0, Sl none 0 0]], [Sg b1 0 [I l.to_, I l.from_, I l.since, I l.due, Sl a4 l.heads.length c4, I l.reply.head.epoch, U l.reply.head.root, U l.reply.head.prev, I l.reply.head.at_, Sr l.reply.proof.name, Sl a5 l.reply.proof.entries.length c5, Sl a3 l.reply.proof.sides.length c3]]] ?_
  refine runL_nil ?_
  refine tq_then ?_
  refine tc_seq ?_
  refine tc_region ?_
  refine runL_b [0,0,0,8] [(1, Pt b1 0), (2, Pt b2 0), (18, Sl a3 l.reply.proof.sides.length c3)] ?_
  refine runL_callR 19 (sclone_EU G2 a3 c3 l.reply.proof.sides (hs3.mono (Mem.le_trans hl1 hl2))) (fun v G3 L1 hl3 hp => ?_)
  obtain ⟨a6, c6, r3, rfl, hr3, rfl⟩ := hp
  refine runL_bs [0,0,0,11] [(1, Pt b1 0), (2, Pt b2 0)] [r3, r2, r1, [Sg b2 0 [I 0, I 0, I 0, I 0, Sl none 0 0, I 0, U 0, U 0, I 0, Sr ([]), Sl none 0 0, Sl none 0 0]], [Sg b1 0 [I l.to_, I l.from_, I l.since, I l.due, Sl a4 l.heads.length c4, I l.reply.head.epoch, U l.reply.head.root, U l.reply.head.prev, I l.reply.head.at_, Sr l.reply.proof.name, Sl a5 l.reply.proof.entries.length c5, Sl a6 l.reply.proof.sides.length c6]]] ?_
  refine runL_nil ?_
  refine tq_then ?_
  refine tc_rbs [10,9] [(2, Pt b2 0)] [r3, r2, r1, [Sg b2 0 [I l.to_, I l.from_, I l.since, I l.due, Sl a4 l.heads.length c4, I l.reply.head.epoch, U l.reply.head.root, U l.reply.head.prev, I l.reply.head.at_, Sr l.reply.proof.name, Sl a5 l.reply.proof.entries.length c5, Sl a6 l.reply.proof.sides.length c6]], [Sg b1 0 [I l.to_, I l.from_, I l.since, I l.due, Sl a4 l.heads.length c4, I l.reply.head.epoch, U l.reply.head.root, U l.reply.head.prev, I l.reply.head.at_, Sr l.reply.proof.name, Sl a5 l.reply.proof.entries.length c5, Sl a6 l.reply.proof.sides.length c6]]] ?_
  refine tc_ret ?_
  refine tq_know (fun w_ h_ => TRow.out (hr1.mono (Mem.le_trans hl2 hl3)) h_ (i := 2) rfl) (fun ho1 => ?_)
  refine tq_frzR (E := EHead) 2 (hr1.mono (Mem.le_trans hl2 hl3)) (by exact (hs1).fit) (fun G4 hl4 hs4 => ?_)
  refine tq_know (fun w_ h_ => TRow.out (hr3.mono hl4) h_ (i := 0) rfl) (fun ho2 => ?_)
  refine tq_frzR (E := EU) 0 (hr3.mono hl4) (by exact ((hs3.mono (Mem.le_trans hl1 hl2))).fit) (fun G5 hl5 hs5 => ?_)
  refine tq_ret [3] [.agg #[I l.to_, I l.from_, I l.since, I l.due, Sl a4 l.heads.length c4, I l.reply.head.epoch, U l.reply.head.root, U l.reply.head.prev, I l.reply.head.at_, Sr l.reply.proof.name, Sl a5 l.reply.proof.entries.length c5, Sl a6 l.reply.proof.sides.length c6]] (bp_ret (Mem.le_trans (Mem.le_trans (Mem.le_trans (Mem.le_trans hl1 hl2) hl3) hl4) hl5) ?_)
  exact ⟨_, _, _, _, _, _, rfl, ((ir_head (hs4.mono hl5) ho1).base (Mem.le_trans (Mem.le_trans hl1 hl2) hl3)), ((ir_sides hs5 ho2).base (Mem.le_trans (Mem.le_trans (Mem.le_trans hl1 hl2) hl3) hl4)), (Nat.le_trans ((hs4.mono hl5)).le ((hs4.mono hl5)).max), (Nat.le_trans (hs5).le (hs5).max), rfl⟩

theorem owned2_con (G : Mem) (a : Option Addr) (c : Nat) (l : List LetterD) (h_l : RS ELetter G a c l) (hf : l.length ≤ 1000) : Con Try.prog 13 #[Sl a l.length c] G [] (fun u G' L' => ∃ a' c' ws r, u = Sl a' ws.length c' ∧ TRow (EW G) G' a' c' ws r ∧ ws.length = l.length ∧ L' = [r]) := by
  refine con_of Try.func13 19 [(0, Sl a l.length c)] rfl (fun w0 G0 => ?_)
  refine tc_rb [0] [(0, Sl a l.length c)] ?_
  refine tc_rb [0] [(0, Sl a l.length c), (3, Sl none 0 0)] ?_
  refine tc_seq ?_
  refine tc_rb [0,0,0] [(3, Sl none 0 0), (6, Sl a l.length c), (7, I (((l.length : Nat) : Int))), (8, I 0)] ?_
  refine tc_block ?_
  refine tc_empty ?_
  have hlm_h_l : l.length ≤ 9223372036854775807 := Nat.le_trans (h_l).le (h_l).max
  refine tc_loop (σ := Nat × Option Addr × Nat × List Seg × List ((Nat × Nat)) × Mem) (fun q_ => (Mem.le G q_.2.2.2.2.2) ∧ (q_.1 ≤ l.length) ∧ (TRow (EW G) q_.2.2.2.2.2 q_.2.1 q_.2.2.1 q_.2.2.2.2.1 q_.2.2.2.1) ∧ (q_.2.2.2.2.1.length = q_.1)) (fun q_ => [(3, Sl q_.2.1 q_.2.2.2.2.1.length q_.2.2.1), (6, Sl a l.length c), (7, I (((l.length : Nat) : Int))), (8, I ((q_.1 : Int)))]) (fun q_ => q_.2.2.2.2.2) (fun q_ => [q_.2.2.2.1]) (fun q_ => l.length - q_.1) ((0, none, 0, [], [], G)) ⟨(Mem.le_refl _), (by (try dsimp only); first | exact Nat.zero_le _ | omega | simp), (TRow.none (EW G) _), rfl⟩ (fun q_ hs => ?_)
  obtain ⟨i, ao, co, ro, xo, g⟩ := q_
  obtain ⟨hle, hi, hro, hxo⟩ := hs
  dsimp only at hle hi hro hxo
  refine tc_eq (fr' := [(3, Sl ao xo.length co), (6, Sl a l.length c), (7, I (((l.length : Nat) : Int))), (8, I ((i : Int)))]) (L' := [ro]) rfl rfl ?_
  refine tc_rb [0] [(3, Sl ao xo.length co), (6, Sl a l.length c), (7, I (((l.length : Nat) : Int))), (8, I ((i : Int))), (9, Bo (decide ((i : Int) < ((l.length : Nat) : Int))))] ?_
  refine tc_seq ?_
  refine tc_cond (decide ((i : Int) < ((l.length : Nat) : Int))) (fun h1 => ?_) (fun h1 => ?_)
  ·
    try simp only [decide_eq_true_eq, decide_eq_false_iff_not, Bool.and_eq_true, Bool.or_eq_true, Bool.and_eq_false_imp, Bool.or_eq_false_iff, Bool.not_eq_true', Bool.not_eq_false', Bool.not_eq_true, Bool.not_eq_false, beq_iff_eq, beq_eq_false_iff_ne, bne_iff_ne, ne_eq, Decidable.not_not, Int.not_lt, Int.not_le] at h1
    refine tc_skip ?_
    refine tq_then ?_
    refine tc_seq ?_
    refine tc_block ?_
    refine tc_seq ?_
    refine tc_region ?_
    obtain ⟨b1, o1, rfl⟩ := RS.addr (h_l.mono hle) (k := i) (by omega)
    obtain ⟨x1, hx1⟩ := getX (l := l) (k := i) (by omega)
    obtain ⟨_, ⟨a1, c1, a2, c2, a3, c3, rfl, w1, w2, w3, w4, hs1, w5, w6, w7, w8, w9, hs2, hs3⟩, hc1⟩ := RS.get (h_l.mono hle) hx1
    refine runL_idx (b := b1) (off := o1) (len := l.length) (cap := c) (ik := .i64) 10 36 12 i (by omega) ?_
    refine runL_ldG 11 36 (cs := [I x1.to_, I x1.from_, I x1.since, I x1.due, Sl a1 x1.heads.length c1, I x1.reply.head.epoch, U x1.reply.head.root, U x1.reply.head.prev, I x1.reply.head.at_, Sr x1.reply.proof.name, Sl a2 x1.reply.proof.entries.length c2, Sl a3 x1.reply.proof.sides.length c3]) 0 (.agg #[I x1.to_, I x1.from_, I x1.since, I x1.due, Sl a1 x1.heads.length c1, I x1.reply.head.epoch, U x1.reply.head.root, U x1.reply.head.prev, I x1.reply.head.at_, Sr x1.reply.proof.name, Sl a2 x1.reply.proof.entries.length c2, Sl a3 x1.reply.proof.sides.length c3]) hc1 ?_
    refine runL_box 5 #[I 0, I 0, I 0, I 0, Sl none 0 0, I 0, U 0, U 0, I 0, Sr ([]), Sl none 0 0, Sl none 0 0] 36 (fun b2 => ?_)
    refine runL_bs [3] [(3, Sl ao xo.length co), (5, Pt b2 0), (6, Sl (At b1 o1) l.length c), (7, I (((l.length : Nat) : Int))), (8, I ((i : Int)))] [[Sg b2 0 [I x1.to_, I x1.from_, I x1.since, I x1.due, Sl a1 x1.heads.length c1, I x1.reply.head.epoch, U x1.reply.head.root, U x1.reply.head.prev, I x1.reply.head.at_, Sr x1.reply.proof.name, Sl a2 x1.reply.proof.entries.length c2, Sl a3 x1.reply.proof.sides.length c3]], ro] ?_
    refine runL_nil ?_
    refine tq_then ?_
    refine tc_region ?_
    refine runL_b [0,2] [(3, Sl ao xo.length co), (6, Sl (At b1 o1) l.length c), (7, I (((l.length : Nat) : Int))), (8, I ((i : Int))), (12, Sl ao xo.length co), (13, .agg #[I x1.to_, I x1.from_, I x1.since, I x1.due, Sl a1 x1.heads.length c1, I x1.reply.head.epoch, U x1.reply.head.root, U x1.reply.head.prev, I x1.reply.head.at_, Sr x1.reply.proof.name, Sl a2 x1.reply.proof.entries.length c2, Sl a3 x1.reply.proof.sides.length c3])] ?_
    refine runL_callR 14 (own2_con g [I x1.to_, I x1.from_, I x1.since, I x1.due, Sl a1 x1.heads.length c1, I x1.reply.head.epoch, U x1.reply.head.root, U x1.reply.head.prev, I x1.reply.head.at_, Sr x1.reply.proof.name, Sl a2 x1.reply.proof.entries.length c2, Sl a3 x1.reply.proof.sides.length c3] x1 (⟨a1, c1, a2, c2, a3, c3, rfl, w1, w2, w3, w4, hs1, w5, w6, w7, w8, w9, hs2, hs3⟩)) (fun v G1 L1 hl1 hp => ?_)
    obtain ⟨a4, c4, a5, c5, a6, c6, rfl, hir1, hir2, hbd1, hbd2, rfl⟩ := hp
    refine runL_bsl 15 1 #[I x1.to_, I x1.from_, I x1.since, I x1.due, Sl a4 x1.heads.length c4, I x1.reply.head.epoch, U x1.reply.head.root, U x1.reply.head.prev, I x1.reply.head.at_, Sr x1.reply.proof.name, Sl a5 x1.reply.proof.entries.length c5, Sl a6 x1.reply.proof.sides.length c6] 36 (fun b3 => ?_)
    refine runL_app1' (b := b3) (cs := [I x1.to_, I x1.from_, I x1.since, I x1.due, Sl a4 x1.heads.length c4, I x1.reply.head.epoch, U x1.reply.head.root, U x1.reply.head.prev, I x1.reply.head.at_, Sr x1.reply.proof.name, Sl a5 x1.reply.proof.entries.length c5, Sl a6 x1.reply.proof.sides.length c6]) 16 36 2 0 (E := (EW G)) ((x1.heads.length, x1.reply.proof.sides.length)) (hro.mono hl1) ⟨rfl, one_of rfl, _, _, _, _, rfl, rfl, ((hir1.mono (Mem.le_refl _)).base hle), ((hir2.mono (Mem.le_refl _)).base hle), hbd1, hbd2⟩ (by (try simp only [EW, List.length_append, List.length_cons, List.length_nil]); omega) (by (try simp only [EW, List.length_append, List.length_cons, List.length_nil]); omega) (fun a7 c7 r1 hr1 => ?_)
    refine runL_b [0] [(3, Sl a7 ((xo ++ [(x1.heads.length, x1.reply.proof.sides.length)]).length) c7), (6, Sl (At b1 o1) l.length c), (7, I (((l.length : Nat) : Int))), (8, I ((i : Int)))] ?_
    refine runL_nil ?_
    refine tq_block ?_
    refine tq_then ?_
    refine tc_region ?_
    refine runL_b [0,0] [(3, Sl a7 ((xo ++ [(x1.heads.length, x1.reply.proof.sides.length)]).length) c7), (6, Sl (At b1 o1) l.length c), (7, I (((l.length : Nat) : Int))), (8, I (IntKind.i64.wrap (((i : Int)) + 1)))] ?_
    have e1 : IntKind.i64.wrap (((i : Int)) + 1) = ((i : Int)) + 1 := IntWalk.i64_in _ (by omega)
    refine runL_eq (fr' := [(3, Sl a7 ((xo ++ [(x1.heads.length, x1.reply.proof.sides.length)]).length) c7), (6, Sl (At b1 o1) l.length c), (7, I (((l.length : Nat) : Int))), (8, I (((i : Int)) + 1))]) (L' := [[Sg b3 0 [I x1.to_, I x1.from_, I x1.since, I x1.due, Sl a4 x1.heads.length c4, I x1.reply.head.epoch, U x1.reply.head.root, U x1.reply.head.prev, I x1.reply.head.at_, Sr x1.reply.proof.name, Sl a5 x1.reply.proof.entries.length c5, Sl a6 x1.reply.proof.sides.length c6]], [Sg b2 0 [I x1.to_, I x1.from_, I x1.since, I x1.due, Sl a1 x1.heads.length c1, I x1.reply.head.epoch, U x1.reply.head.root, U x1.reply.head.prev, I x1.reply.head.at_, Sr x1.reply.proof.name, Sl a2 x1.reply.proof.entries.length c2, Sl a3 x1.reply.proof.sides.length c3]], r1]) (by simp only [e1]) (by rfl) ?_
    clear e1
    refine runL_nil ?_
    refine tq_owns [r1] ((.cons _ (.cons _ (.cons_cons _ .slnil)))) ?_
    exact tq_rnd ((i + 1, a7, c7, r1, xo ++ [(x1.heads.length, x1.reply.proof.sides.length)], G1)) ⟨(Mem.le_trans hle hl1), (by omega), hr1, (by (try dsimp only); simp only [List.length_append, List.length_cons, List.length_nil]; omega)⟩ (by (try dsimp only); omega)
  ·
    try simp only [decide_eq_true_eq, decide_eq_false_iff_not, Bool.and_eq_true, Bool.or_eq_true, Bool.and_eq_false_imp, Bool.or_eq_false_iff, Bool.not_eq_true', Bool.not_eq_false', Bool.not_eq_true, Bool.not_eq_false, beq_iff_eq, beq_eq_false_iff_ne, bne_iff_ne, ne_eq, Decidable.not_not, Int.not_lt, Int.not_le] at h1
    refine tc_exit ?_
    refine tq_then_exit ?_
    refine tq_rnd_exit ?_
    refine tq_block_here ?_
    refine tq_then ?_
    refine tc_rb [0,0] [(2, Sl ao xo.length co)] ?_
    refine tc_ret ?_
    refine tq_ret [0] [Sl ao xo.length co] (bp_rows [ro] (.cons_cons _ .slnil) hle ?_)
    exact ⟨_, _, _, _, rfl, hro, by omega, rfl⟩

theorem send2_con (G : Mem) (vs_n : List Value) (n : NetD) (h_n : ENet.R G vs_n n) (vs_l : List Value) (l : LetterD) (h_l : ELetter.R G vs_l l) (a_fates : Option Addr) (c_fates : Nat) (fates : List Int) (h_fates : RS EI G a_fates c_fates fates) : Con Try.prog 7 #[.agg vs_n.toArray, .agg vs_l.toArray, Sl a_fates fates.length c_fates] G [] (fun u G' L' => ∃ nw e a' c' ws, u = .tuple #[.agg #[I nw, Sl a' ws.length c'], I e] ∧ RS (EW G) G' a' c' ws ∧ L' = []) := by
  obtain ⟨a1, c1, rfl, w1, hs1⟩ := h_n
  obtain ⟨a2, c2, a3, c3, a4, c4, rfl, w2, w3, w4, w5, hs2, w6, w7, w8, w9, w10, hs3, hs4⟩ := h_l
  refine con_of Try.func7 60 [(0, .agg #[I n.now, Sl a1 n.way.length c1]), (1, .agg #[I l.to_, I l.from_, I l.since, I l.due, Sl a2 l.heads.length c2, I l.reply.head.epoch, U l.reply.head.root, U l.reply.head.prev, I l.reply.head.at_, Sr l.reply.proof.name, Sl a3 l.reply.proof.entries.length c3, Sl a4 l.reply.proof.sides.length c4]), (2, Sl a_fates fates.length c_fates)] rfl (fun w0 G0 => ?_)
  refine tc_seq ?_
  refine tc_region ?_
  refine runL_box 3 #[I n.now, Sl a1 n.way.length c1] 24 (fun b1 => ?_)
  refine runL_box 4 #[I l.to_, I l.from_, I l.since, I l.due, Sl a2 l.heads.length c2, I l.reply.head.epoch, U l.reply.head.root, U l.reply.head.prev, I l.reply.head.at_, Sr l.reply.proof.name, Sl a3 l.reply.proof.entries.length c3, Sl a4 l.reply.proof.sides.length c4] 36 (fun b2 => ?_)
  refine runL_box 6 #[I 0, Sl none 0 0] 24 (fun b3 => ?_)
  refine runL_b [0] [(2, Sl a_fates fates.length c_fates), (3, Pt b1 0), (4, Pt b2 0), (6, Pt b3 0)] ?_
  refine runL_nil ?_
  refine tq_then ?_
  refine tc_seq ?_
  refine tc_region ?_
  refine runL_b [6] [(2, Sl a_fates fates.length c_fates), (3, Pt b1 0), (4, Pt b2 0), (6, Pt b3 0), (13, .agg #[I n.now, Sl a1 n.way.length c1])] ?_
  refine runL_callV 14 (I (netCheck n)) (netCheck_con G [I n.now, Sl a1 n.way.length c1] n (⟨a1, c1, rfl, w1, hs1⟩)) ?_
  refine runL_b [0] [(2, Sl a_fates fates.length c_fates), (3, Pt b1 0), (4, Pt b2 0), (6, Pt b3 0), (8, I (netCheck n))] ?_
  refine runL_nil ?_
  refine tq_then ?_
  refine tc_seq ?_
  refine tc_block ?_
  refine tc_rb [0,0,0] [(2, Sl a_fates fates.length c_fates), (3, Pt b1 0), (4, Pt b2 0), (6, Pt b3 0), (8, I (netCheck n)), (15, Bo (!decide (netCheck n = 0)))] ?_
  refine tc_cond (!decide (netCheck n = 0)) (fun h1 => ?_) (fun h1 => ?_)
  ·
    try simp only [decide_eq_true_eq, decide_eq_false_iff_not, Bool.and_eq_true, Bool.or_eq_true, Bool.and_eq_false_imp, Bool.or_eq_false_iff, Bool.not_eq_true', Bool.not_eq_false', Bool.not_eq_true, Bool.not_eq_false, beq_iff_eq, beq_eq_false_iff_ne, bne_iff_ne, ne_eq, Decidable.not_not, Int.not_lt, Int.not_le] at h1
    refine tc_rb [0,0,3,0] [(6, Pt b3 0), (7, I (netCheck n))] ?_
    refine tc_ret ?_
    refine tq_block_ret ?_
    refine tq_then_ret ?_
    refine tq_ret [0, 0] [.agg #[I 0, Sl none 0 0], I (netCheck n)] (bp_ret (Mem.le_refl _) ?_)
    exact ⟨_, _, _, _, [], rfl, RS.nil' _ _, rfl⟩
  ·
    try simp only [decide_eq_true_eq, decide_eq_false_iff_not, Bool.and_eq_true, Bool.or_eq_true, Bool.and_eq_false_imp, Bool.or_eq_false_iff, Bool.not_eq_true', Bool.not_eq_false', Bool.not_eq_true, Bool.not_eq_false, beq_iff_eq, beq_eq_false_iff_ne, bne_iff_ne, ne_eq, Decidable.not_not, Int.not_lt, Int.not_le] at h1
    refine tc_seq ?_
    refine tc_region ?_
    refine runL_b [0] [(2, Sl a_fates fates.length c_fates), (3, Pt b1 0), (4, Pt b2 0), (6, Pt b3 0), (21, Sl a_fates fates.length c_fates)] ?_
    refine runL_callV 22 (Bo (fates.any ((fun x0 => fateBad x0)))) (sany_EI G a_fates c_fates fates h_fates 12 #[] ((fun x0 => fateBad x0)) ((fun _ _ => by kernel_rfl)) ((fun x0 hx0 => fateBad_con G x0))) ?_
    refine runL_b [0] [(2, Sl a_fates fates.length c_fates), (3, Pt b1 0), (4, Pt b2 0), (6, Pt b3 0), (20, Bo (fates.any ((fun x0 => fateBad x0))))] ?_
    refine runL_nil ?_
    refine tq_then ?_
    refine tc_cond (fates.any ((fun x0 => fateBad x0))) (fun h2 => ?_) (fun h2 => ?_)
    ·
      try simp only [decide_eq_true_eq, decide_eq_false_iff_not, Bool.and_eq_true, Bool.or_eq_true, Bool.and_eq_false_imp, Bool.or_eq_false_iff, Bool.not_eq_true', Bool.not_eq_false', Bool.not_eq_true, Bool.not_eq_false, beq_iff_eq, beq_eq_false_iff_ne, bne_iff_ne, ne_eq, Decidable.not_not, Int.not_lt, Int.not_le] at h2
      refine tc_rb [0,3,0] [(6, Pt b3 0), (7, I 4)] ?_
      refine tc_ret ?_
      refine tq_block_ret ?_
      refine tq_then_ret ?_
      refine tq_ret [0, 0] [.agg #[I 0, Sl none 0 0], I 4] (bp_ret (Mem.le_refl _) ?_)
      exact ⟨_, _, _, _, [], rfl, RS.nil' _ _, rfl⟩
    ·
      try simp only [decide_eq_true_eq, decide_eq_false_iff_not, Bool.and_eq_true, Bool.or_eq_true, Bool.and_eq_false_imp, Bool.or_eq_false_iff, Bool.not_eq_true', Bool.not_eq_false', Bool.not_eq_true, Bool.not_eq_false, beq_iff_eq, beq_eq_false_iff_ne, bne_iff_ne, ne_eq, Decidable.not_not, Int.not_lt, Int.not_le] at h2
      refine tc_rb [0,0,0,6,0,0,0,0] [(2, Sl a_fates fates.length c_fates), (3, Pt b1 0), (4, Pt b2 0), (6, Pt b3 0), (24, Bo (decide (((fates.length : Nat) : Int) > IntKind.i64.wrap (60 - (((n.way.length : Nat) : Int))))))] ?_
      have e1 : IntKind.i64.wrap (60 - (((n.way.length : Nat) : Int))) = 60 - (((n.way.length : Nat) : Int)) := IntWalk.i64_in _ (by first | omega | (have q_ := netCheck_ok (by assumption); omega) | (have q_ := netCheck_ok (by assumption); have q1_ := fate_ok (by assumption) (by assumption); omega))
      refine tc_eq (fr' := [(2, Sl a_fates fates.length c_fates), (3, Pt b1 0), (4, Pt b2 0), (6, Pt b3 0), (24, Bo (decide (((fates.length : Nat) : Int) > 60 - (((n.way.length : Nat) : Int)))))]) (L' := [[Sg b3 0 [I 0, Sl none 0 0]], [Sg b2 0 [I l.to_, I l.from_, I l.since, I l.due, Sl a2 l.heads.length c2, I l.reply.head.epoch, U l.reply.head.root, U l.reply.head.prev, I l.reply.head.at_, Sr l.reply.proof.name, Sl a3 l.reply.proof.entries.length c3, Sl a4 l.reply.proof.sides.length c4]], [Sg b1 0 [I n.now, Sl a1 n.way.length c1]]]) (by simp only [e1]) (by rfl) ?_
      clear e1
      refine tc_cond (decide (((fates.length : Nat) : Int) > 60 - (((n.way.length : Nat) : Int)))) (fun h3 => ?_) (fun h3 => ?_)
      ·
        try simp only [decide_eq_true_eq, decide_eq_false_iff_not, Bool.and_eq_true, Bool.or_eq_true, Bool.and_eq_false_imp, Bool.or_eq_false_iff, Bool.not_eq_true', Bool.not_eq_false', Bool.not_eq_true, Bool.not_eq_false, beq_iff_eq, beq_eq_false_iff_ne, bne_iff_ne, ne_eq, Decidable.not_not, Int.not_lt, Int.not_le] at h3
        refine tc_rb [0,3,0] [(6, Pt b3 0), (7, I 7)] ?_
        refine tc_ret ?_
        refine tq_block_ret ?_
        refine tq_then_ret ?_
        refine tq_ret [0, 0] [.agg #[I 0, Sl none 0 0], I 7] (bp_ret (Mem.le_refl _) ?_)
        exact ⟨_, _, _, _, [], rfl, RS.nil' _ _, rfl⟩
      ·
        try simp only [decide_eq_true_eq, decide_eq_false_iff_not, Bool.and_eq_true, Bool.or_eq_true, Bool.and_eq_false_imp, Bool.or_eq_false_iff, Bool.not_eq_true', Bool.not_eq_false', Bool.not_eq_true, Bool.not_eq_false, beq_iff_eq, beq_eq_false_iff_ne, bne_iff_ne, ne_eq, Decidable.not_not, Int.not_lt, Int.not_le] at h3
        refine tc_skip ?_
        refine tq_block ?_
        refine tq_then ?_
        refine tc_seq ?_
        refine tc_draw [4, 6, 7] ?_
        refine dr_V [(0, Pt b1 0), (1, I n.now), (2, Pt b1 1), (3, Sl a1 n.way.length c1)] ?_
        refine dr_mid [] [(0,0), (1,6), (2,0), (3,6)] [] [4, 6] (List.forall_mem_nil _) (List.forall_mem_cons.2 ⟨?_, (List.forall_mem_cons.2 ⟨?_, List.forall_mem_nil _⟩)⟩)
        ·
          refine act_of 4 [(36, Sl a1 n.way.length c1)] (fun X => ?_)
          refine runL_callR 37 (owned2_con G a1 c1 n.way hs1 (by have q_ := netCheck_ok (by assumption); omega)) (fun v G1 L1 hl1 hp => ?_)
          obtain ⟨a5, c5, ws1, r1, rfl, hr1, hwl1, rfl⟩ := hp
          have hr1 := TRow.ew hr1 (Mem.le_refl _)
          refine act_end (V' := [(0, Pt b1 0), (1, I n.now), (2, Pt b1 1), (3, Sl a1 n.way.length c1), (4, Sl a5 ws1.length c5), (5, .agg #[I n.now, Sl a5 ws1.length c5])]) ?_
          refine dr_mid [2, 3] [(0,0), (1,8), (5,0)] [] [6] (List.forall_mem_nil _) (List.forall_mem_cons.2 ⟨?_, List.forall_mem_nil _⟩)
          refine act_of 6 [] (fun X => ?_)
          refine runL_box 9 #[I 0, Sl none 0 0] 24 (fun b4 => ?_)
          refine act_end (V' := [(0, Pt b1 0), (1, I n.now), (2, Pt b1 1), (3, Sl a1 n.way.length c1), (4, Sl a5 ws1.length c5), (5, .agg #[I n.now, Sl a5 ws1.length c5]), (6, Pt b4 0)]) ?_
          refine dr_mid [2, 3] [(0,0), (1,10), (5,0)] [] [7] (List.forall_mem_nil _) (List.forall_mem_cons.2 ⟨?_, List.forall_mem_nil _⟩)
          refine act_of 7 [(9, Pt b4 0), (38, .agg #[I n.now, Sl a5 ws1.length c5])] (fun X => ?_)
          refine runL_st 0 [[Sg b4 0 [I n.now, Sl a5 ws1.length c5]], r1, [Sg b3 0 [I 0, Sl none 0 0]], [Sg b2 0 [I l.to_, I l.from_, I l.since, I l.due, Sl a2 l.heads.length c2, I l.reply.head.epoch, U l.reply.head.root, U l.reply.head.prev, I l.reply.head.at_, Sr l.reply.proof.name, Sl a3 l.reply.proof.entries.length c3, Sl a4 l.reply.proof.sides.length c4]], [Sg b1 0 [I n.now, Sl a1 n.way.length c1]]] ?_
          refine act_end0 (V' := [(0, Pt b1 0), (1, I n.now), (2, Pt b1 1), (3, Sl a1 n.way.length c1), (4, Sl a5 ws1.length c5), (5, .agg #[I n.now, Sl a5 ws1.length c5]), (6, Pt b4 0)]) ?_
          refine dr_end [0, 1, 2, 3, 5] [] [] [(2, Sl a_fates fates.length c_fates), (3, Pt b1 0), (4, Pt b2 0), (6, Pt b3 0), (9, Pt b4 0)] (List.forall_mem_nil _) ?_
          refine tq_then ?_
          refine tc_seq ?_
          refine tc_rb [0,0,0] [(3, Pt b1 0), (4, Pt b2 0), (6, Pt b3 0), (9, Pt b4 0), (39, Sl a_fates fates.length c_fates), (40, I (((fates.length : Nat) : Int))), (41, I 0)] ?_
          refine tc_block ?_
          have hlm_h_fates : fates.length ≤ 9223372036854775807 := Nat.le_trans (h_fates).le (h_fates).max
          refine tc_loop (σ := Nat × Option Addr × Nat × List Seg × List ((Nat × Nat)) × Mem) (fun q_ => (Mem.le G1 q_.2.2.2.2.2) ∧ (q_.1 ≤ fates.length) ∧ (TRow (EW G) q_.2.2.2.2.2 q_.2.1 q_.2.2.1 q_.2.2.2.2.1 q_.2.2.2.1) ∧ (q_.2.2.2.2.1.length = n.way.length + q_.1)) (fun q_ => [(3, Pt b1 0), (4, Pt b2 0), (6, Pt b3 0), (9, Pt b4 0), (39, Sl a_fates fates.length c_fates), (40, I (((fates.length : Nat) : Int))), (41, I ((q_.1 : Int)))]) (fun q_ => q_.2.2.2.2.2) (fun q_ => [[Sg b4 0 [I n.now, Sl q_.2.1 q_.2.2.2.2.1.length q_.2.2.1]], q_.2.2.2.1, [Sg b3 0 [I 0, Sl none 0 0]], [Sg b2 0 [I l.to_, I l.from_, I l.since, I l.due, Sl a2 l.heads.length c2, I l.reply.head.epoch, U l.reply.head.root, U l.reply.head.prev, I l.reply.head.at_, Sr l.reply.proof.name, Sl a3 l.reply.proof.entries.length c3, Sl a4 l.reply.proof.sides.length c4]], [Sg b1 0 [I n.now, Sl a1 n.way.length c1]]]) (fun q_ => fates.length - q_.1) ((0, a5, c5, r1, ws1, G1)) ⟨(Mem.le_refl _), (by (try dsimp only); first | exact Nat.zero_le _ | omega | simp), hr1, (by (try dsimp only); first | assumption | omega)⟩ (fun q_ hs => ?_)
          obtain ⟨i, aw, cw, rw, xw, g⟩ := q_
          obtain ⟨hle, hi, hrw, hxw⟩ := hs
          dsimp only at hle hi hrw hxw
          refine tc_eq (fr' := [(3, Pt b1 0), (4, Pt b2 0), (6, Pt b3 0), (9, Pt b4 0), (39, Sl a_fates fates.length c_fates), (40, I (((fates.length : Nat) : Int))), (41, I ((i : Int)))]) (L' := [[Sg b4 0 [I n.now, Sl aw xw.length cw]], rw, [Sg b3 0 [I 0, Sl none 0 0]], [Sg b2 0 [I l.to_, I l.from_, I l.since, I l.due, Sl a2 l.heads.length c2, I l.reply.head.epoch, U l.reply.head.root, U l.reply.head.prev, I l.reply.head.at_, Sr l.reply.proof.name, Sl a3 l.reply.proof.entries.length c3, Sl a4 l.reply.proof.sides.length c4]], [Sg b1 0 [I n.now, Sl a1 n.way.length c1]]]) rfl rfl ?_
          refine tc_rb [0] [(3, Pt b1 0), (4, Pt b2 0), (6, Pt b3 0), (9, Pt b4 0), (39, Sl a_fates fates.length c_fates), (40, I (((fates.length : Nat) : Int))), (41, I ((i : Int))), (42, Bo (decide ((i : Int) < ((fates.length : Nat) : Int))))] ?_
          refine tc_seq ?_
          refine tc_cond (decide ((i : Int) < ((fates.length : Nat) : Int))) (fun h4 => ?_) (fun h4 => ?_)
          ·
            try simp only [decide_eq_true_eq, decide_eq_false_iff_not, Bool.and_eq_true, Bool.or_eq_true, Bool.and_eq_false_imp, Bool.or_eq_false_iff, Bool.not_eq_true', Bool.not_eq_false', Bool.not_eq_true, Bool.not_eq_false, beq_iff_eq, beq_eq_false_iff_ne, bne_iff_ne, ne_eq, Decidable.not_not, Int.not_lt, Int.not_le] at h4
            refine tc_skip ?_
            refine tq_then ?_
            refine tc_seq ?_
            refine tc_block ?_
            refine tc_seq ?_
            refine tc_region ?_
            obtain ⟨b5, o1, rfl⟩ := RS.addr (h_fates.mono (Mem.le_trans hl1 hle)) (k := i) (by first | omega | (have q_ := netCheck_ok (by assumption); omega) | (have q_ := netCheck_ok (by assumption); have q1_ := fate_ok (by assumption) (by assumption); omega))
            obtain ⟨x1, hx1⟩ := getX (l := fates) (k := i) (by first | omega | (have q_ := netCheck_ok (by assumption); omega) | (have q_ := netCheck_ok (by assumption); have q1_ := fate_ok (by assumption) (by assumption); omega))
            obtain ⟨_, ⟨rfl, w11⟩, hc1⟩ := RS.get (h_fates.mono (Mem.le_trans hl1 hle)) hx1
            refine runL_idx (b := b5) (off := o1) (len := fates.length) (cap := c_fates) (ik := .i64) 43 3 1 i (by first | omega | (have q_ := netCheck_ok (by assumption); omega) | (have q_ := netCheck_ok (by assumption); have q1_ := fate_ok (by assumption) (by assumption); omega)) ?_
            refine runL_ldG 44 3 (cs := [I x1]) 0 (I x1) hc1 ?_
            refine runL_b [0] [(3, Pt b1 0), (4, Pt b2 0), (6, Pt b3 0), (9, Pt b4 0), (11, I x1), (39, Sl (At b5 o1) fates.length c_fates), (40, I (((fates.length : Nat) : Int))), (41, I ((i : Int)))] ?_
            refine runL_nil ?_
            refine tq_then ?_
            refine tc_seq ?_
            refine tc_region ?_
            refine runL_b [8] [(3, Pt b1 0), (4, Pt b2 0), (6, Pt b3 0), (9, Pt b4 0), (11, I x1), (39, Sl (At b5 o1) fates.length c_fates), (40, I (((fates.length : Nat) : Int))), (41, I ((i : Int))), (45, .agg #[I l.to_, I l.from_, I l.since, I l.due, Sl a2 l.heads.length c2, I l.reply.head.epoch, U l.reply.head.root, U l.reply.head.prev, I l.reply.head.at_, Sr l.reply.proof.name, Sl a3 l.reply.proof.entries.length c3, Sl a4 l.reply.proof.sides.length c4])] ?_
            refine runL_callR 46 (own2_con g [I l.to_, I l.from_, I l.since, I l.due, Sl a2 l.heads.length c2, I l.reply.head.epoch, U l.reply.head.root, U l.reply.head.prev, I l.reply.head.at_, Sr l.reply.proof.name, Sl a3 l.reply.proof.entries.length c3, Sl a4 l.reply.proof.sides.length c4] l (⟨a2, c2, a3, c3, a4, c4, rfl, (by first | (first | assumption | omega | (have q_ := netCheck_ok (by assumption); have q1_ := fate_ok (by assumption) (by assumption); omega)) | (dsimp only; first | assumption | omega | (have q_ := netCheck_ok (by assumption); have q1_ := fate_ok (by assumption) (by assumption); omega))), (by first | (first | assumption | omega | (have q_ := netCheck_ok (by assumption); have q1_ := fate_ok (by assumption) (by assumption); omega)) | (dsimp only; first | assumption | omega | (have q_ := netCheck_ok (by assumption); have q1_ := fate_ok (by assumption) (by assumption); omega))), (by first | (first | assumption | omega | (have q_ := netCheck_ok (by assumption); have q1_ := fate_ok (by assumption) (by assumption); omega)) | (dsimp only; first | assumption | omega | (have q_ := netCheck_ok (by assumption); have q1_ := fate_ok (by assumption) (by assumption); omega))), (by first | (first | assumption | omega | (have q_ := netCheck_ok (by assumption); have q1_ := fate_ok (by assumption) (by assumption); omega)) | (dsimp only; first | assumption | omega | (have q_ := netCheck_ok (by assumption); have q1_ := fate_ok (by assumption) (by assumption); omega))), (hs2.mono (Mem.le_trans hl1 hle)), (by first | (first | assumption | omega | (have q_ := netCheck_ok (by assumption); have q1_ := fate_ok (by assumption) (by assumption); omega)) | (dsimp only; first | assumption | omega | (have q_ := netCheck_ok (by assumption); have q1_ := fate_ok (by assumption) (by assumption); omega))), (by first | (first | assumption | omega | (have q_ := netCheck_ok (by assumption); have q1_ := fate_ok (by assumption) (by assumption); omega)) | (dsimp only; first | assumption | omega | (have q_ := netCheck_ok (by assumption); have q1_ := fate_ok (by assumption) (by assumption); omega))), (by first | (first | assumption | omega | (have q_ := netCheck_ok (by assumption); have q1_ := fate_ok (by assumption) (by assumption); omega)) | (dsimp only; first | assumption | omega | (have q_ := netCheck_ok (by assumption); have q1_ := fate_ok (by assumption) (by assumption); omega))), (by first | (first | assumption | omega | (have q_ := netCheck_ok (by assumption); have q1_ := fate_ok (by assumption) (by assumption); omega)) | (dsimp only; first | assumption | omega | (have q_ := netCheck_ok (by assumption); have q1_ := fate_ok (by assumption) (by assumption); omega))), (by first | (first | assumption | omega | (have q_ := netCheck_ok (by assumption); have q1_ := fate_ok (by assumption) (by assumption); omega)) | (dsimp only; first | assumption | omega | (have q_ := netCheck_ok (by assumption); have q1_ := fate_ok (by assumption) (by assumption); omega))), (hs3.mono (Mem.le_trans hl1 hle)), (hs4.mono (Mem.le_trans hl1 hle))⟩)) (fun v G2 L1 hl2 hp => ?_)
            obtain ⟨a6, c6, a7, c7, a8, c8, rfl, hir1, hir2, hbd1, hbd2, rfl⟩ := hp
            refine runL_box 12 #[I 0, I 0, I 0, I 0, Sl none 0 0, I 0, U 0, U 0, I 0, Sr ([]), Sl none 0 0, Sl none 0 0] 36 (fun b6 => ?_)
            refine runL_bs [3] [(3, Pt b1 0), (4, Pt b2 0), (6, Pt b3 0), (9, Pt b4 0), (11, I x1), (12, Pt b6 0), (39, Sl (At b5 o1) fates.length c_fates), (40, I (((fates.length : Nat) : Int))), (41, I ((i : Int)))] [[Sg b6 0 [I l.to_, I l.from_, I l.since, I l.due, Sl a6 l.heads.length c6, I l.reply.head.epoch, U l.reply.head.root, U l.reply.head.prev, I l.reply.head.at_, Sr l.reply.proof.name, Sl a7 l.reply.proof.entries.length c7, Sl a8 l.reply.proof.sides.length c8]], [Sg b4 0 [I n.now, Sl aw xw.length cw]], rw, [Sg b3 0 [I 0, Sl none 0 0]], [Sg b2 0 [I l.to_, I l.from_, I l.since, I l.due, Sl a2 l.heads.length c2, I l.reply.head.epoch, U l.reply.head.root, U l.reply.head.prev, I l.reply.head.at_, Sr l.reply.proof.name, Sl a3 l.reply.proof.entries.length c3, Sl a4 l.reply.proof.sides.length c4]], [Sg b1 0 [I n.now, Sl a1 n.way.length c1]]] ?_
            refine runL_nil ?_
            refine tq_then ?_
            refine tc_rbs [0,12,0,0,0,3] [(3, Pt b1 0), (4, Pt b2 0), (6, Pt b3 0), (9, Pt b4 0), (12, Pt b6 0), (39, Sl (At b5 o1) fates.length c_fates), (40, I (((fates.length : Nat) : Int))), (41, I ((i : Int)))] [[Sg b6 0 [I l.to_, I l.from_, I l.since, I (IntKind.i64.wrap (n.now + x1)), Sl a6 l.heads.length c6, I l.reply.head.epoch, U l.reply.head.root, U l.reply.head.prev, I l.reply.head.at_, Sr l.reply.proof.name, Sl a7 l.reply.proof.entries.length c7, Sl a8 l.reply.proof.sides.length c8]], [Sg b4 0 [I n.now, Sl aw xw.length cw]], rw, [Sg b3 0 [I 0, Sl none 0 0]], [Sg b2 0 [I l.to_, I l.from_, I l.since, I l.due, Sl a2 l.heads.length c2, I l.reply.head.epoch, U l.reply.head.root, U l.reply.head.prev, I l.reply.head.at_, Sr l.reply.proof.name, Sl a3 l.reply.proof.entries.length c3, Sl a4 l.reply.proof.sides.length c4]], [Sg b1 0 [I n.now, Sl a1 n.way.length c1]]] ?_
            have e2 : IntKind.i64.wrap (n.now + x1) = n.now + x1 := IntWalk.i64_in _ (by first | omega | (have q_ := netCheck_ok (by assumption); omega) | (have q_ := netCheck_ok (by assumption); have q1_ := fate_ok (by assumption) (by assumption); omega))
            refine tc_eq (fr' := [(3, Pt b1 0), (4, Pt b2 0), (6, Pt b3 0), (9, Pt b4 0), (12, Pt b6 0), (39, Sl (At b5 o1) fates.length c_fates), (40, I (((fates.length : Nat) : Int))), (41, I ((i : Int)))]) (L' := [[Sg b6 0 [I l.to_, I l.from_, I l.since, I (n.now + x1), Sl a6 l.heads.length c6, I l.reply.head.epoch, U l.reply.head.root, U l.reply.head.prev, I l.reply.head.at_, Sr l.reply.proof.name, Sl a7 l.reply.proof.entries.length c7, Sl a8 l.reply.proof.sides.length c8]], [Sg b4 0 [I n.now, Sl aw xw.length cw]], rw, [Sg b3 0 [I 0, Sl none 0 0]], [Sg b2 0 [I l.to_, I l.from_, I l.since, I l.due, Sl a2 l.heads.length c2, I l.reply.head.epoch, U l.reply.head.root, U l.reply.head.prev, I l.reply.head.at_, Sr l.reply.proof.name, Sl a3 l.reply.proof.entries.length c3, Sl a4 l.reply.proof.sides.length c4]], [Sg b1 0 [I n.now, Sl a1 n.way.length c1]]]) (by rfl) (by simp only [e2]) ?_
            clear e2
            refine tc_region ?_
            refine runL_b [0,4,2] [(3, Pt b1 0), (4, Pt b2 0), (6, Pt b3 0), (9, Pt b4 0), (39, Sl (At b5 o1) fates.length c_fates), (40, I (((fates.length : Nat) : Int))), (41, I ((i : Int))), (53, Sl aw xw.length cw), (54, .agg #[I l.to_, I l.from_, I l.since, I (n.now + x1), Sl a6 l.heads.length c6, I l.reply.head.epoch, U l.reply.head.root, U l.reply.head.prev, I l.reply.head.at_, Sr l.reply.proof.name, Sl a7 l.reply.proof.entries.length c7, Sl a8 l.reply.proof.sides.length c8])] ?_
            refine runL_bsl 55 1 #[I l.to_, I l.from_, I l.since, I (n.now + x1), Sl a6 l.heads.length c6, I l.reply.head.epoch, U l.reply.head.root, U l.reply.head.prev, I l.reply.head.at_, Sr l.reply.proof.name, Sl a7 l.reply.proof.entries.length c7, Sl a8 l.reply.proof.sides.length c8] 36 (fun b7 => ?_)
            refine runL_app1' (b := b7) (cs := [I l.to_, I l.from_, I l.since, I (n.now + x1), Sl a6 l.heads.length c6, I l.reply.head.epoch, U l.reply.head.root, U l.reply.head.prev, I l.reply.head.at_, Sr l.reply.proof.name, Sl a7 l.reply.proof.entries.length c7, Sl a8 l.reply.proof.sides.length c8]) 56 36 3 0 (E := (EW G)) ((l.heads.length, l.reply.proof.sides.length)) (hrw.mono hl2) ⟨rfl, one_of rfl, _, _, _, _, rfl, rfl, ((hir1.mono (Mem.le_refl _)).base (Mem.le_trans hl1 hle)), ((hir2.mono (Mem.le_refl _)).base (Mem.le_trans hl1 hle)), hbd1, hbd2⟩ (by have q_ := netCheck_ok (by assumption); (try simp only [EW, List.length_append, List.length_cons, List.length_nil] at *); omega) (by have q_ := netCheck_ok (by assumption); (try simp only [EW, List.length_append, List.length_cons, List.length_nil] at *); omega) (fun a9 c9 r2 hr2 => ?_)
            refine runL_bs [0,7] [(3, Pt b1 0), (4, Pt b2 0), (6, Pt b3 0), (9, Pt b4 0), (39, Sl (At b5 o1) fates.length c_fates), (40, I (((fates.length : Nat) : Int))), (41, I ((i : Int)))] [[Sg b7 0 [I l.to_, I l.from_, I l.since, I (n.now + x1), Sl a6 l.heads.length c6, I l.reply.head.epoch, U l.reply.head.root, U l.reply.head.prev, I l.reply.head.at_, Sr l.reply.proof.name, Sl a7 l.reply.proof.entries.length c7, Sl a8 l.reply.proof.sides.length c8]], [Sg b6 0 [I l.to_, I l.from_, I l.since, I (n.now + x1), Sl a6 l.heads.length c6, I l.reply.head.epoch, U l.reply.head.root, U l.reply.head.prev, I l.reply.head.at_, Sr l.reply.proof.name, Sl a7 l.reply.proof.entries.length c7, Sl a8 l.reply.proof.sides.length c8]], [Sg b4 0 [I n.now, Sl a9 ((xw ++ [(l.heads.length, l.reply.proof.sides.length)]).length) c9]], r2, [Sg b3 0 [I 0, Sl none 0 0]], [Sg b2 0 [I l.to_, I l.from_, I l.since, I l.due, Sl a2 l.heads.length c2, I l.reply.head.epoch, U l.reply.head.root, U l.reply.head.prev, I l.reply.head.at_, Sr l.reply.proof.name, Sl a3 l.reply.proof.entries.length c3, Sl a4 l.reply.proof.sides.length c4]], [Sg b1 0 [I n.now, Sl a1 n.way.length c1]]] ?_
            refine runL_nil ?_
            refine tq_block ?_
            refine tq_then ?_
            refine tc_region ?_
            refine runL_b [0,0] [(3, Pt b1 0), (4, Pt b2 0), (6, Pt b3 0), (9, Pt b4 0), (39, Sl (At b5 o1) fates.length c_fates), (40, I (((fates.length : Nat) : Int))), (41, I (IntKind.i64.wrap (((i : Int)) + 1)))] ?_
            have e3 : IntKind.i64.wrap (((i : Int)) + 1) = ((i : Int)) + 1 := IntWalk.i64_in _ (by first | omega | (have q_ := netCheck_ok (by assumption); omega) | (have q_ := netCheck_ok (by assumption); have q1_ := fate_ok (by assumption) (by assumption); omega))
            refine runL_eq (fr' := [(3, Pt b1 0), (4, Pt b2 0), (6, Pt b3 0), (9, Pt b4 0), (39, Sl (At b5 o1) fates.length c_fates), (40, I (((fates.length : Nat) : Int))), (41, I (((i : Int)) + 1))]) (L' := [[Sg b7 0 [I l.to_, I l.from_, I l.since, I (n.now + x1), Sl a6 l.heads.length c6, I l.reply.head.epoch, U l.reply.head.root, U l.reply.head.prev, I l.reply.head.at_, Sr l.reply.proof.name, Sl a7 l.reply.proof.entries.length c7, Sl a8 l.reply.proof.sides.length c8]], [Sg b6 0 [I l.to_, I l.from_, I l.since, I (n.now + x1), Sl a6 l.heads.length c6, I l.reply.head.epoch, U l.reply.head.root, U l.reply.head.prev, I l.reply.head.at_, Sr l.reply.proof.name, Sl a7 l.reply.proof.entries.length c7, Sl a8 l.reply.proof.sides.length c8]], [Sg b4 0 [I n.now, Sl a9 ((xw ++ [(l.heads.length, l.reply.proof.sides.length)]).length) c9]], r2, [Sg b3 0 [I 0, Sl none 0 0]], [Sg b2 0 [I l.to_, I l.from_, I l.since, I l.due, Sl a2 l.heads.length c2, I l.reply.head.epoch, U l.reply.head.root, U l.reply.head.prev, I l.reply.head.at_, Sr l.reply.proof.name, Sl a3 l.reply.proof.entries.length c3, Sl a4 l.reply.proof.sides.length c4]], [Sg b1 0 [I n.now, Sl a1 n.way.length c1]]]) (by simp only [e3]) (by rfl) ?_
            clear e3
            refine runL_nil ?_
            refine tq_owns [[Sg b4 0 [I n.now, Sl a9 ((xw ++ [(l.heads.length, l.reply.proof.sides.length)]).length) c9]], r2, [Sg b3 0 [I 0, Sl none 0 0]], [Sg b2 0 [I l.to_, I l.from_, I l.since, I l.due, Sl a2 l.heads.length c2, I l.reply.head.epoch, U l.reply.head.root, U l.reply.head.prev, I l.reply.head.at_, Sr l.reply.proof.name, Sl a3 l.reply.proof.entries.length c3, Sl a4 l.reply.proof.sides.length c4]], [Sg b1 0 [I n.now, Sl a1 n.way.length c1]]] ((.cons _ (.cons _ (.cons_cons _ (.cons_cons _ (.cons_cons _ (.cons_cons _ (.cons_cons _ .slnil)))))))) ?_
            exact tq_rnd ((i + 1, a9, c9, r2, xw ++ [(l.heads.length, l.reply.proof.sides.length)], G2)) ⟨(Mem.le_trans hle hl2), (by omega), hr2, (by (try dsimp only); simp only [List.length_append, List.length_cons, List.length_nil]; omega)⟩ (by (try dsimp only); omega)
          ·
            try simp only [decide_eq_true_eq, decide_eq_false_iff_not, Bool.and_eq_true, Bool.or_eq_true, Bool.and_eq_false_imp, Bool.or_eq_false_iff, Bool.not_eq_true', Bool.not_eq_false', Bool.not_eq_true, Bool.not_eq_false, beq_iff_eq, beq_eq_false_iff_ne, bne_iff_ne, ne_eq, Decidable.not_not, Int.not_lt, Int.not_le] at h4
            refine tc_exit ?_
            refine tq_then_exit ?_
            refine tq_rnd_exit ?_
            refine tq_block_here ?_
            refine tq_then ?_
            refine tc_rbs [2,7,0] [(6, Pt b3 0), (7, I 0)] [[Sg b4 0 [I n.now, Sl aw xw.length cw]], rw, [Sg b3 0 [I n.now, Sl aw xw.length cw]], [Sg b2 0 [I l.to_, I l.from_, I l.since, I l.due, Sl a2 l.heads.length c2, I l.reply.head.epoch, U l.reply.head.root, U l.reply.head.prev, I l.reply.head.at_, Sr l.reply.proof.name, Sl a3 l.reply.proof.entries.length c3, Sl a4 l.reply.proof.sides.length c4]], [Sg b1 0 [I n.now, Sl a1 n.way.length c1]]] ?_
            refine tc_ret ?_
            refine tq_frzR (E := (EW G)) 1 hrw (by have q_ := netCheck_ok (by assumption); (try simp only [EW, List.length_append, List.length_cons, List.length_nil] at *); omega) (fun G3 hl3 hs5 => ?_)
            refine tq_ret [2, 0] [.agg #[I n.now, Sl aw xw.length cw], I 0] (bp_ret (Mem.le_trans (Mem.le_trans hl1 hle) hl3) ?_)
            exact ⟨_, _, _, _, _, rfl, hs5, rfl⟩
        refine act_of 6 [] (fun X => ?_)
        refine runL_box 9 #[I 0, Sl none 0 0] 24 (fun b8 => ?_)
        refine act_end (V' := [(0, Pt b1 0), (1, I n.now), (2, Pt b1 1), (3, Sl a1 n.way.length c1), (6, Pt b8 0)]) ?_
        refine dr_mid [] [(0,0), (1,8), (2,0), (3,8)] [] [4] (List.forall_mem_nil _) (List.forall_mem_cons.2 ⟨?_, List.forall_mem_nil _⟩)
        refine act_of 4 [(36, Sl a1 n.way.length c1)] (fun X => ?_)
        refine runL_callR 37 (owned2_con G a1 c1 n.way hs1 (by have q_ := netCheck_ok (by assumption); omega)) (fun v G4 L1 hl4 hp => ?_)
        obtain ⟨a10, c10, ws2, r3, rfl, hr3, hwl2, rfl⟩ := hp
        have hr3 := TRow.ew hr3 (Mem.le_refl _)
        refine act_end (V' := [(0, Pt b1 0), (1, I n.now), (2, Pt b1 1), (3, Sl a1 n.way.length c1), (4, Sl a10 ws2.length c10), (5, .agg #[I n.now, Sl a10 ws2.length c10]), (6, Pt b8 0)]) ?_
        refine dr_mid [2, 3] [(0,0), (1,10), (5,0)] [] [7] (List.forall_mem_nil _) (List.forall_mem_cons.2 ⟨?_, List.forall_mem_nil _⟩)
        refine act_of 7 [(9, Pt b8 0), (38, .agg #[I n.now, Sl a10 ws2.length c10])] (fun X => ?_)
        refine runL_st 1 [r3, [Sg b8 0 [I n.now, Sl a10 ws2.length c10]], [Sg b3 0 [I 0, Sl none 0 0]], [Sg b2 0 [I l.to_, I l.from_, I l.since, I l.due, Sl a2 l.heads.length c2, I l.reply.head.epoch, U l.reply.head.root, U l.reply.head.prev, I l.reply.head.at_, Sr l.reply.proof.name, Sl a3 l.reply.proof.entries.length c3, Sl a4 l.reply.proof.sides.length c4]], [Sg b1 0 [I n.now, Sl a1 n.way.length c1]]] ?_
        refine act_end0 (V' := [(0, Pt b1 0), (1, I n.now), (2, Pt b1 1), (3, Sl a1 n.way.length c1), (4, Sl a10 ws2.length c10), (5, .agg #[I n.now, Sl a10 ws2.length c10]), (6, Pt b8 0)]) ?_
        refine dr_end [0, 1, 2, 3, 5] [] [] [(2, Sl a_fates fates.length c_fates), (3, Pt b1 0), (4, Pt b2 0), (6, Pt b3 0), (9, Pt b8 0)] (List.forall_mem_nil _) ?_
        refine tq_then ?_
        refine tc_seq ?_
        refine tc_rb [0,0,0] [(3, Pt b1 0), (4, Pt b2 0), (6, Pt b3 0), (9, Pt b8 0), (39, Sl a_fates fates.length c_fates), (40, I (((fates.length : Nat) : Int))), (41, I 0)] ?_
        refine tc_block ?_
        have hlm_h_fates : fates.length ≤ 9223372036854775807 := Nat.le_trans (h_fates).le (h_fates).max
        refine tc_loop (σ := Nat × Option Addr × Nat × List Seg × List ((Nat × Nat)) × Mem) (fun q_ => (Mem.le G4 q_.2.2.2.2.2) ∧ (q_.1 ≤ fates.length) ∧ (TRow (EW G) q_.2.2.2.2.2 q_.2.1 q_.2.2.1 q_.2.2.2.2.1 q_.2.2.2.1) ∧ (q_.2.2.2.2.1.length = n.way.length + q_.1)) (fun q_ => [(3, Pt b1 0), (4, Pt b2 0), (6, Pt b3 0), (9, Pt b8 0), (39, Sl a_fates fates.length c_fates), (40, I (((fates.length : Nat) : Int))), (41, I ((q_.1 : Int)))]) (fun q_ => q_.2.2.2.2.2) (fun q_ => [q_.2.2.2.1, [Sg b8 0 [I n.now, Sl q_.2.1 q_.2.2.2.2.1.length q_.2.2.1]], [Sg b3 0 [I 0, Sl none 0 0]], [Sg b2 0 [I l.to_, I l.from_, I l.since, I l.due, Sl a2 l.heads.length c2, I l.reply.head.epoch, U l.reply.head.root, U l.reply.head.prev, I l.reply.head.at_, Sr l.reply.proof.name, Sl a3 l.reply.proof.entries.length c3, Sl a4 l.reply.proof.sides.length c4]], [Sg b1 0 [I n.now, Sl a1 n.way.length c1]]]) (fun q_ => fates.length - q_.1) ((0, a10, c10, r3, ws2, G4)) ⟨(Mem.le_refl _), (by (try dsimp only); first | exact Nat.zero_le _ | omega | simp), hr3, (by (try dsimp only); first | assumption | omega)⟩ (fun q_ hs => ?_)
        obtain ⟨i, aw, cw, rw, xw, g⟩ := q_
        obtain ⟨hle, hi, hrw, hxw⟩ := hs
        dsimp only at hle hi hrw hxw
        refine tc_eq (fr' := [(3, Pt b1 0), (4, Pt b2 0), (6, Pt b3 0), (9, Pt b8 0), (39, Sl a_fates fates.length c_fates), (40, I (((fates.length : Nat) : Int))), (41, I ((i : Int)))]) (L' := [rw, [Sg b8 0 [I n.now, Sl aw xw.length cw]], [Sg b3 0 [I 0, Sl none 0 0]], [Sg b2 0 [I l.to_, I l.from_, I l.since, I l.due, Sl a2 l.heads.length c2, I l.reply.head.epoch, U l.reply.head.root, U l.reply.head.prev, I l.reply.head.at_, Sr l.reply.proof.name, Sl a3 l.reply.proof.entries.length c3, Sl a4 l.reply.proof.sides.length c4]], [Sg b1 0 [I n.now, Sl a1 n.way.length c1]]]) rfl rfl ?_
        refine tc_rb [0] [(3, Pt b1 0), (4, Pt b2 0), (6, Pt b3 0), (9, Pt b8 0), (39, Sl a_fates fates.length c_fates), (40, I (((fates.length : Nat) : Int))), (41, I ((i : Int))), (42, Bo (decide ((i : Int) < ((fates.length : Nat) : Int))))] ?_
        refine tc_seq ?_
        refine tc_cond (decide ((i : Int) < ((fates.length : Nat) : Int))) (fun h5 => ?_) (fun h5 => ?_)
        ·
          try simp only [decide_eq_true_eq, decide_eq_false_iff_not, Bool.and_eq_true, Bool.or_eq_true, Bool.and_eq_false_imp, Bool.or_eq_false_iff, Bool.not_eq_true', Bool.not_eq_false', Bool.not_eq_true, Bool.not_eq_false, beq_iff_eq, beq_eq_false_iff_ne, bne_iff_ne, ne_eq, Decidable.not_not, Int.not_lt, Int.not_le] at h5
          refine tc_skip ?_
          refine tq_then ?_
          refine tc_seq ?_
          refine tc_block ?_
          refine tc_seq ?_
          refine tc_region ?_
          obtain ⟨b9, o2, rfl⟩ := RS.addr (h_fates.mono (Mem.le_trans hl4 hle)) (k := i) (by first | omega | (have q_ := netCheck_ok (by assumption); omega) | (have q_ := netCheck_ok (by assumption); have q1_ := fate_ok (by assumption) (by assumption); omega))
          obtain ⟨x2, hx2⟩ := getX (l := fates) (k := i) (by first | omega | (have q_ := netCheck_ok (by assumption); omega) | (have q_ := netCheck_ok (by assumption); have q1_ := fate_ok (by assumption) (by assumption); omega))
          obtain ⟨_, ⟨rfl, w12⟩, hc2⟩ := RS.get (h_fates.mono (Mem.le_trans hl4 hle)) hx2
          refine runL_idx (b := b9) (off := o2) (len := fates.length) (cap := c_fates) (ik := .i64) 43 3 1 i (by first | omega | (have q_ := netCheck_ok (by assumption); omega) | (have q_ := netCheck_ok (by assumption); have q1_ := fate_ok (by assumption) (by assumption); omega)) ?_
          refine runL_ldG 44 3 (cs := [I x2]) 0 (I x2) hc2 ?_
          refine runL_b [0] [(3, Pt b1 0), (4, Pt b2 0), (6, Pt b3 0), (9, Pt b8 0), (11, I x2), (39, Sl (At b9 o2) fates.length c_fates), (40, I (((fates.length : Nat) : Int))), (41, I ((i : Int)))] ?_
          refine runL_nil ?_
          refine tq_then ?_
          refine tc_seq ?_
          refine tc_region ?_
          refine runL_b [8] [(3, Pt b1 0), (4, Pt b2 0), (6, Pt b3 0), (9, Pt b8 0), (11, I x2), (39, Sl (At b9 o2) fates.length c_fates), (40, I (((fates.length : Nat) : Int))), (41, I ((i : Int))), (45, .agg #[I l.to_, I l.from_, I l.since, I l.due, Sl a2 l.heads.length c2, I l.reply.head.epoch, U l.reply.head.root, U l.reply.head.prev, I l.reply.head.at_, Sr l.reply.proof.name, Sl a3 l.reply.proof.entries.length c3, Sl a4 l.reply.proof.sides.length c4])] ?_
          refine runL_callR 46 (own2_con g [I l.to_, I l.from_, I l.since, I l.due, Sl a2 l.heads.length c2, I l.reply.head.epoch, U l.reply.head.root, U l.reply.head.prev, I l.reply.head.at_, Sr l.reply.proof.name, Sl a3 l.reply.proof.entries.length c3, Sl a4 l.reply.proof.sides.length c4] l (⟨a2, c2, a3, c3, a4, c4, rfl, (by first | (first | assumption | omega | (have q_ := netCheck_ok (by assumption); have q1_ := fate_ok (by assumption) (by assumption); omega)) | (dsimp only; first | assumption | omega | (have q_ := netCheck_ok (by assumption); have q1_ := fate_ok (by assumption) (by assumption); omega))), (by first | (first | assumption | omega | (have q_ := netCheck_ok (by assumption); have q1_ := fate_ok (by assumption) (by assumption); omega)) | (dsimp only; first | assumption | omega | (have q_ := netCheck_ok (by assumption); have q1_ := fate_ok (by assumption) (by assumption); omega))), (by first | (first | assumption | omega | (have q_ := netCheck_ok (by assumption); have q1_ := fate_ok (by assumption) (by assumption); omega)) | (dsimp only; first | assumption | omega | (have q_ := netCheck_ok (by assumption); have q1_ := fate_ok (by assumption) (by assumption); omega))), (by first | (first | assumption | omega | (have q_ := netCheck_ok (by assumption); have q1_ := fate_ok (by assumption) (by assumption); omega)) | (dsimp only; first | assumption | omega | (have q_ := netCheck_ok (by assumption); have q1_ := fate_ok (by assumption) (by assumption); omega))), (hs2.mono (Mem.le_trans hl4 hle)), (by first | (first | assumption | omega | (have q_ := netCheck_ok (by assumption); have q1_ := fate_ok (by assumption) (by assumption); omega)) | (dsimp only; first | assumption | omega | (have q_ := netCheck_ok (by assumption); have q1_ := fate_ok (by assumption) (by assumption); omega))), (by first | (first | assumption | omega | (have q_ := netCheck_ok (by assumption); have q1_ := fate_ok (by assumption) (by assumption); omega)) | (dsimp only; first | assumption | omega | (have q_ := netCheck_ok (by assumption); have q1_ := fate_ok (by assumption) (by assumption); omega))), (by first | (first | assumption | omega | (have q_ := netCheck_ok (by assumption); have q1_ := fate_ok (by assumption) (by assumption); omega)) | (dsimp only; first | assumption | omega | (have q_ := netCheck_ok (by assumption); have q1_ := fate_ok (by assumption) (by assumption); omega))), (by first | (first | assumption | omega | (have q_ := netCheck_ok (by assumption); have q1_ := fate_ok (by assumption) (by assumption); omega)) | (dsimp only; first | assumption | omega | (have q_ := netCheck_ok (by assumption); have q1_ := fate_ok (by assumption) (by assumption); omega))), (by first | (first | assumption | omega | (have q_ := netCheck_ok (by assumption); have q1_ := fate_ok (by assumption) (by assumption); omega)) | (dsimp only; first | assumption | omega | (have q_ := netCheck_ok (by assumption); have q1_ := fate_ok (by assumption) (by assumption); omega))), (hs3.mono (Mem.le_trans hl4 hle)), (hs4.mono (Mem.le_trans hl4 hle))⟩)) (fun v G5 L1 hl5 hp => ?_)
          obtain ⟨a11, c11, a12, c12, a13, c13, rfl, hir3, hir4, hbd3, hbd4, rfl⟩ := hp
          refine runL_box 12 #[I 0, I 0, I 0, I 0, Sl none 0 0, I 0, U 0, U 0, I 0, Sr ([]), Sl none 0 0, Sl none 0 0] 36 (fun b10 => ?_)
          refine runL_bs [3] [(3, Pt b1 0), (4, Pt b2 0), (6, Pt b3 0), (9, Pt b8 0), (11, I x2), (12, Pt b10 0), (39, Sl (At b9 o2) fates.length c_fates), (40, I (((fates.length : Nat) : Int))), (41, I ((i : Int)))] [[Sg b10 0 [I l.to_, I l.from_, I l.since, I l.due, Sl a11 l.heads.length c11, I l.reply.head.epoch, U l.reply.head.root, U l.reply.head.prev, I l.reply.head.at_, Sr l.reply.proof.name, Sl a12 l.reply.proof.entries.length c12, Sl a13 l.reply.proof.sides.length c13]], rw, [Sg b8 0 [I n.now, Sl aw xw.length cw]], [Sg b3 0 [I 0, Sl none 0 0]], [Sg b2 0 [I l.to_, I l.from_, I l.since, I l.due, Sl a2 l.heads.length c2, I l.reply.head.epoch, U l.reply.head.root, U l.reply.head.prev, I l.reply.head.at_, Sr l.reply.proof.name, Sl a3 l.reply.proof.entries.length c3, Sl a4 l.reply.proof.sides.length c4]], [Sg b1 0 [I n.now, Sl a1 n.way.length c1]]] ?_
          refine runL_nil ?_
          refine tq_then ?_
          refine tc_rbs [0,12,0,0,0,3] [(3, Pt b1 0), (4, Pt b2 0), (6, Pt b3 0), (9, Pt b8 0), (12, Pt b10 0), (39, Sl (At b9 o2) fates.length c_fates), (40, I (((fates.length : Nat) : Int))), (41, I ((i : Int)))] [[Sg b10 0 [I l.to_, I l.from_, I l.since, I (IntKind.i64.wrap (n.now + x2)), Sl a11 l.heads.length c11, I l.reply.head.epoch, U l.reply.head.root, U l.reply.head.prev, I l.reply.head.at_, Sr l.reply.proof.name, Sl a12 l.reply.proof.entries.length c12, Sl a13 l.reply.proof.sides.length c13]], rw, [Sg b8 0 [I n.now, Sl aw xw.length cw]], [Sg b3 0 [I 0, Sl none 0 0]], [Sg b2 0 [I l.to_, I l.from_, I l.since, I l.due, Sl a2 l.heads.length c2, I l.reply.head.epoch, U l.reply.head.root, U l.reply.head.prev, I l.reply.head.at_, Sr l.reply.proof.name, Sl a3 l.reply.proof.entries.length c3, Sl a4 l.reply.proof.sides.length c4]], [Sg b1 0 [I n.now, Sl a1 n.way.length c1]]] ?_
          have e4 : IntKind.i64.wrap (n.now + x2) = n.now + x2 := IntWalk.i64_in _ (by first | omega | (have q_ := netCheck_ok (by assumption); omega) | (have q_ := netCheck_ok (by assumption); have q1_ := fate_ok (by assumption) (by assumption); omega))
          refine tc_eq (fr' := [(3, Pt b1 0), (4, Pt b2 0), (6, Pt b3 0), (9, Pt b8 0), (12, Pt b10 0), (39, Sl (At b9 o2) fates.length c_fates), (40, I (((fates.length : Nat) : Int))), (41, I ((i : Int)))]) (L' := [[Sg b10 0 [I l.to_, I l.from_, I l.since, I (n.now + x2), Sl a11 l.heads.length c11, I l.reply.head.epoch, U l.reply.head.root, U l.reply.head.prev, I l.reply.head.at_, Sr l.reply.proof.name, Sl a12 l.reply.proof.entries.length c12, Sl a13 l.reply.proof.sides.length c13]], rw, [Sg b8 0 [I n.now, Sl aw xw.length cw]], [Sg b3 0 [I 0, Sl none 0 0]], [Sg b2 0 [I l.to_, I l.from_, I l.since, I l.due, Sl a2 l.heads.length c2, I l.reply.head.epoch, U l.reply.head.root, U l.reply.head.prev, I l.reply.head.at_, Sr l.reply.proof.name, Sl a3 l.reply.proof.entries.length c3, Sl a4 l.reply.proof.sides.length c4]], [Sg b1 0 [I n.now, Sl a1 n.way.length c1]]]) (by rfl) (by simp only [e4]) ?_
          clear e4
          refine tc_region ?_
          refine runL_b [0,6,2] [(3, Pt b1 0), (4, Pt b2 0), (6, Pt b3 0), (9, Pt b8 0), (39, Sl (At b9 o2) fates.length c_fates), (40, I (((fates.length : Nat) : Int))), (41, I ((i : Int))), (53, Sl aw xw.length cw), (54, .agg #[I l.to_, I l.from_, I l.since, I (n.now + x2), Sl a11 l.heads.length c11, I l.reply.head.epoch, U l.reply.head.root, U l.reply.head.prev, I l.reply.head.at_, Sr l.reply.proof.name, Sl a12 l.reply.proof.entries.length c12, Sl a13 l.reply.proof.sides.length c13])] ?_
          refine runL_bsl 55 1 #[I l.to_, I l.from_, I l.since, I (n.now + x2), Sl a11 l.heads.length c11, I l.reply.head.epoch, U l.reply.head.root, U l.reply.head.prev, I l.reply.head.at_, Sr l.reply.proof.name, Sl a12 l.reply.proof.entries.length c12, Sl a13 l.reply.proof.sides.length c13] 36 (fun b11 => ?_)
          refine runL_app1' (b := b11) (cs := [I l.to_, I l.from_, I l.since, I (n.now + x2), Sl a11 l.heads.length c11, I l.reply.head.epoch, U l.reply.head.root, U l.reply.head.prev, I l.reply.head.at_, Sr l.reply.proof.name, Sl a12 l.reply.proof.entries.length c12, Sl a13 l.reply.proof.sides.length c13]) 56 36 2 0 (E := (EW G)) ((l.heads.length, l.reply.proof.sides.length)) (hrw.mono hl5) ⟨rfl, one_of rfl, _, _, _, _, rfl, rfl, ((hir3.mono (Mem.le_refl _)).base (Mem.le_trans hl4 hle)), ((hir4.mono (Mem.le_refl _)).base (Mem.le_trans hl4 hle)), hbd3, hbd4⟩ (by have q_ := netCheck_ok (by assumption); (try simp only [EW, List.length_append, List.length_cons, List.length_nil] at *); omega) (by have q_ := netCheck_ok (by assumption); (try simp only [EW, List.length_append, List.length_cons, List.length_nil] at *); omega) (fun a14 c14 r4 hr4 => ?_)
          refine runL_bs [0,9] [(3, Pt b1 0), (4, Pt b2 0), (6, Pt b3 0), (9, Pt b8 0), (39, Sl (At b9 o2) fates.length c_fates), (40, I (((fates.length : Nat) : Int))), (41, I ((i : Int)))] [[Sg b11 0 [I l.to_, I l.from_, I l.since, I (n.now + x2), Sl a11 l.heads.length c11, I l.reply.head.epoch, U l.reply.head.root, U l.reply.head.prev, I l.reply.head.at_, Sr l.reply.proof.name, Sl a12 l.reply.proof.entries.length c12, Sl a13 l.reply.proof.sides.length c13]], [Sg b10 0 [I l.to_, I l.from_, I l.since, I (n.now + x2), Sl a11 l.heads.length c11, I l.reply.head.epoch, U l.reply.head.root, U l.reply.head.prev, I l.reply.head.at_, Sr l.reply.proof.name, Sl a12 l.reply.proof.entries.length c12, Sl a13 l.reply.proof.sides.length c13]], r4, [Sg b8 0 [I n.now, Sl a14 ((xw ++ [(l.heads.length, l.reply.proof.sides.length)]).length) c14]], [Sg b3 0 [I 0, Sl none 0 0]], [Sg b2 0 [I l.to_, I l.from_, I l.since, I l.due, Sl a2 l.heads.length c2, I l.reply.head.epoch, U l.reply.head.root, U l.reply.head.prev, I l.reply.head.at_, Sr l.reply.proof.name, Sl a3 l.reply.proof.entries.length c3, Sl a4 l.reply.proof.sides.length c4]], [Sg b1 0 [I n.now, Sl a1 n.way.length c1]]] ?_
          refine runL_nil ?_
          refine tq_block ?_
          refine tq_then ?_
          refine tc_region ?_
          refine runL_b [0,0] [(3, Pt b1 0), (4, Pt b2 0), (6, Pt b3 0), (9, Pt b8 0), (39, Sl (At b9 o2) fates.length c_fates), (40, I (((fates.length : Nat) : Int))), (41, I (IntKind.i64.wrap (((i : Int)) + 1)))] ?_
          have e5 : IntKind.i64.wrap (((i : Int)) + 1) = ((i : Int)) + 1 := IntWalk.i64_in _ (by first | omega | (have q_ := netCheck_ok (by assumption); omega) | (have q_ := netCheck_ok (by assumption); have q1_ := fate_ok (by assumption) (by assumption); omega))
          refine runL_eq (fr' := [(3, Pt b1 0), (4, Pt b2 0), (6, Pt b3 0), (9, Pt b8 0), (39, Sl (At b9 o2) fates.length c_fates), (40, I (((fates.length : Nat) : Int))), (41, I (((i : Int)) + 1))]) (L' := [[Sg b11 0 [I l.to_, I l.from_, I l.since, I (n.now + x2), Sl a11 l.heads.length c11, I l.reply.head.epoch, U l.reply.head.root, U l.reply.head.prev, I l.reply.head.at_, Sr l.reply.proof.name, Sl a12 l.reply.proof.entries.length c12, Sl a13 l.reply.proof.sides.length c13]], [Sg b10 0 [I l.to_, I l.from_, I l.since, I (n.now + x2), Sl a11 l.heads.length c11, I l.reply.head.epoch, U l.reply.head.root, U l.reply.head.prev, I l.reply.head.at_, Sr l.reply.proof.name, Sl a12 l.reply.proof.entries.length c12, Sl a13 l.reply.proof.sides.length c13]], r4, [Sg b8 0 [I n.now, Sl a14 ((xw ++ [(l.heads.length, l.reply.proof.sides.length)]).length) c14]], [Sg b3 0 [I 0, Sl none 0 0]], [Sg b2 0 [I l.to_, I l.from_, I l.since, I l.due, Sl a2 l.heads.length c2, I l.reply.head.epoch, U l.reply.head.root, U l.reply.head.prev, I l.reply.head.at_, Sr l.reply.proof.name, Sl a3 l.reply.proof.entries.length c3, Sl a4 l.reply.proof.sides.length c4]], [Sg b1 0 [I n.now, Sl a1 n.way.length c1]]]) (by simp only [e5]) (by rfl) ?_
          clear e5
          refine runL_nil ?_
          refine tq_owns [r4, [Sg b8 0 [I n.now, Sl a14 ((xw ++ [(l.heads.length, l.reply.proof.sides.length)]).length) c14]], [Sg b3 0 [I 0, Sl none 0 0]], [Sg b2 0 [I l.to_, I l.from_, I l.since, I l.due, Sl a2 l.heads.length c2, I l.reply.head.epoch, U l.reply.head.root, U l.reply.head.prev, I l.reply.head.at_, Sr l.reply.proof.name, Sl a3 l.reply.proof.entries.length c3, Sl a4 l.reply.proof.sides.length c4]], [Sg b1 0 [I n.now, Sl a1 n.way.length c1]]] ((.cons _ (.cons _ (.cons_cons _ (.cons_cons _ (.cons_cons _ (.cons_cons _ (.cons_cons _ .slnil)))))))) ?_
          exact tq_rnd ((i + 1, a14, c14, r4, xw ++ [(l.heads.length, l.reply.proof.sides.length)], G5)) ⟨(Mem.le_trans hle hl5), (by omega), hr4, (by (try dsimp only); simp only [List.length_append, List.length_cons, List.length_nil]; omega)⟩ (by (try dsimp only); omega)
        ·
          try simp only [decide_eq_true_eq, decide_eq_false_iff_not, Bool.and_eq_true, Bool.or_eq_true, Bool.and_eq_false_imp, Bool.or_eq_false_iff, Bool.not_eq_true', Bool.not_eq_false', Bool.not_eq_true, Bool.not_eq_false, beq_iff_eq, beq_eq_false_iff_ne, bne_iff_ne, ne_eq, Decidable.not_not, Int.not_lt, Int.not_le] at h5
          refine tc_exit ?_
          refine tq_then_exit ?_
          refine tq_rnd_exit ?_
          refine tq_block_here ?_
          refine tq_then ?_
          refine tc_rbs [4,7,0] [(6, Pt b3 0), (7, I 0)] [rw, [Sg b8 0 [I n.now, Sl aw xw.length cw]], [Sg b3 0 [I n.now, Sl aw xw.length cw]], [Sg b2 0 [I l.to_, I l.from_, I l.since, I l.due, Sl a2 l.heads.length c2, I l.reply.head.epoch, U l.reply.head.root, U l.reply.head.prev, I l.reply.head.at_, Sr l.reply.proof.name, Sl a3 l.reply.proof.entries.length c3, Sl a4 l.reply.proof.sides.length c4]], [Sg b1 0 [I n.now, Sl a1 n.way.length c1]]] ?_
          refine tc_ret ?_
          refine tq_frzR (E := (EW G)) 0 hrw (by have q_ := netCheck_ok (by assumption); (try simp only [EW, List.length_append, List.length_cons, List.length_nil] at *); omega) (fun G6 hl6 hs6 => ?_)
          refine tq_ret [2, 0] [.agg #[I n.now, Sl aw xw.length cw], I 0] (bp_ret (Mem.le_trans (Mem.le_trans hl4 hle) hl6) ?_)
          exact ⟨_, _, _, _, _, rfl, hs6, rfl⟩

theorem netOwn_con (G : Mem) (vs_n : List Value) (n : NetD) (h_n : ENet.R G vs_n n) (vs_l : List Value) (l : LetterD) (h_l : ELetter.R G vs_l l) (a_fates : Option Addr) (c_fates : Nat) (fates : List Int) (h_fates : RS EI G a_fates c_fates fates) (hf_fates : fates.length * 8 ≤ 140737488351232) : Con Try.prog 3 #[.agg vs_n.toArray, .agg vs_l.toArray, Sl a_fates fates.length c_fates] G [] (fun u G' L' => u = Bo true) := by
  obtain ⟨a1, c1, rfl, w1, hs1⟩ := h_n
  obtain ⟨a2, c2, a3, c3, a4, c4, rfl, w2, w3, w4, w5, hs2, w6, w7, w8, w9, w10, hs3, hs4⟩ := h_l
  refine con_of Try.func3 100 [(0, .agg #[I n.now, Sl a1 n.way.length c1]), (1, .agg #[I l.to_, I l.from_, I l.since, I l.due, Sl a2 l.heads.length c2, I l.reply.head.epoch, U l.reply.head.root, U l.reply.head.prev, I l.reply.head.at_, Sr l.reply.proof.name, Sl a3 l.reply.proof.entries.length c3, Sl a4 l.reply.proof.sides.length c4]), (2, Sl a_fates fates.length c_fates)] rfl (fun w0 G0 => ?_)
  refine tc_seq ?_
  refine tc_region ?_
  refine runL_box 3 #[I n.now, Sl a1 n.way.length c1] 24 (fun b1 => ?_)
  refine runL_box 4 #[I l.to_, I l.from_, I l.since, I l.due, Sl a2 l.heads.length c2, I l.reply.head.epoch, U l.reply.head.root, U l.reply.head.prev, I l.reply.head.at_, Sr l.reply.proof.name, Sl a3 l.reply.proof.entries.length c3, Sl a4 l.reply.proof.sides.length c4] 36 (fun b2 => ?_)
  refine runL_b [0] [(2, Sl a_fates fates.length c_fates), (3, Pt b1 0), (4, Pt b2 0)] ?_
  refine runL_nil ?_
  refine tq_then ?_
  refine tc_seq ?_
  refine tc_seq ?_
  refine tc_region ?_
  refine runL_callV 14 (Bo true) (nets_con G) ?_
  refine runL_b [0] [(2, Sl a_fates fates.length c_fates), (3, Pt b1 0), (4, Pt b2 0), (15, Bo false)] ?_
  refine runL_nil ?_
  refine tq_then ?_
  refine tc_cond_false ?_
  refine tc_skip ?_
  refine tq_then ?_
  refine tc_seq ?_
  refine tc_draw [2, 7] ?_
  refine dr_V [(0, Pt b2 4), (1, Sl a2 l.heads.length c2), (3, Pt b2 5), (4, Pt b2 9), (5, Pt b2 11), (6, Sl a4 l.reply.proof.sides.length c4)] ?_
  refine dr_mid [] [(0,0), (1,2), (3,0), (4,0), (5,0), (6,2)] [] [2] (List.forall_mem_nil _) (List.forall_mem_cons.2 ⟨?_, List.forall_mem_nil _⟩)
  refine act_of 2 [(17, Sl a2 l.heads.length c2)] (fun X => ?_)
  refine runL_callR 18 (sclone_EHead G a2 c2 l.heads hs2) (fun v G1 L1 hl1 hp => ?_)
  obtain ⟨a5, c5, r1, rfl, hr1, rfl⟩ := hp
  refine act_end (V' := [(0, Pt b2 4), (1, Sl a2 l.heads.length c2), (2, Sl a5 l.heads.length c5), (3, Pt b2 5), (4, Pt b2 9), (5, Pt b2 11), (6, Sl a4 l.reply.proof.sides.length c4)]) ?_
  refine dr_mid [0, 1] [(3,0), (4,0), (5,0), (6,4)] [] [7] (List.forall_mem_nil _) (List.forall_mem_cons.2 ⟨?_, List.forall_mem_nil _⟩)
  refine act_of 7 [(22, Sl a4 l.reply.proof.sides.length c4)] (fun X => ?_)
  refine runL_callR 23 (sclone_EU G1 a4 c4 l.reply.proof.sides (hs4.mono hl1)) (fun v G2 L1 hl2 hp => ?_)
  obtain ⟨a6, c6, r2, rfl, hr2, rfl⟩ := hp
  refine act_end (V' := [(0, Pt b2 4), (1, Sl a2 l.heads.length c2), (2, Sl a5 l.heads.length c5), (3, Pt b2 5), (4, Pt b2 9), (5, Pt b2 11), (6, Sl a4 l.reply.proof.sides.length c4), (7, Sl a6 l.reply.proof.sides.length c6), (8, Sl a5 l.heads.length c5), (9, Sl a6 l.reply.proof.sides.length c6)]) ?_
  refine dr_end [0, 1, 3, 4, 5, 6] [(8,0), (9,0)] [] [(2, Sl a_fates fates.length c_fates), (3, Pt b1 0), (4, Pt b2 0), (7, Sl a5 l.heads.length c5), (8, Sl a6 l.reply.proof.sides.length c6)] (List.forall_mem_nil _) ?_
  refine tq_then ?_
  refine tc_seq ?_
  refine tc_region ?_
  refine runL_b [8,6,0] [(4, Pt b2 0), (7, Sl a5 l.heads.length c5), (8, Sl a6 l.reply.proof.sides.length c6), (25, .agg #[I n.now, Sl a1 n.way.length c1]), (26, .agg #[I l.to_, I l.from_, I l.since, I l.due, Sl a2 l.heads.length c2, I l.reply.head.epoch, U l.reply.head.root, U l.reply.head.prev, I l.reply.head.at_, Sr l.reply.proof.name, Sl a3 l.reply.proof.entries.length c3, Sl a4 l.reply.proof.sides.length c4]), (27, Sl a_fates fates.length c_fates)] ?_
  refine runL_know (p := Mem.le G0 G2) (fun w_ h_ => h_.grow) (fun hg0_ => ?_)
  refine runL_callR 28 (send2_con G2 [I n.now, Sl a1 n.way.length c1] n (⟨a1, c1, rfl, w1, (hs1.mono (Mem.le_trans hl1 hl2))⟩) [I l.to_, I l.from_, I l.since, I l.due, Sl a2 l.heads.length c2, I l.reply.head.epoch, U l.reply.head.root, U l.reply.head.prev, I l.reply.head.at_, Sr l.reply.proof.name, Sl a3 l.reply.proof.entries.length c3, Sl a4 l.reply.proof.sides.length c4] l (⟨a2, c2, a3, c3, a4, c4, rfl, w2, w3, w4, w5, (hs2.mono (Mem.le_trans hl1 hl2)), w6, w7, w8, w9, w10, (hs3.mono (Mem.le_trans hl1 hl2)), (hs4.mono (Mem.le_trans hl1 hl2))⟩) a_fates c_fates fates (h_fates.mono (Mem.le_trans hl1 hl2))) (fun v G3 L1 hl3 hp => ?_)
  obtain ⟨nw1, er1, a7, c7, ws1, rfl, hw1, rfl⟩ := hp
  have hway_ := way_of hw1
  have hmx_ : ws1.length ≤ 9223372036854775807 := Nat.le_trans (hw1).le (hw1).max
  refine runL_b [0,0,0] [(4, Pt b2 0), (7, Sl a5 l.heads.length c5), (8, Sl a6 l.reply.proof.sides.length c6), (29, .agg #[I nw1, Sl a7 ws1.length c7]), (30, I er1)] ?_
  refine runL_box 9 #[I 0, Sl none 0 0] 24 (fun b3 => ?_)
  refine runL_bs [3,0] [(4, Pt b2 0), (7, Sl a5 l.heads.length c5), (8, Sl a6 l.reply.proof.sides.length c6), (9, Pt b3 0)] [[Sg b3 0 [I nw1, Sl a7 ws1.length c7]], r2, r1, [Sg b2 0 [I l.to_, I l.from_, I l.since, I l.due, Sl a2 l.heads.length c2, I l.reply.head.epoch, U l.reply.head.root, U l.reply.head.prev, I l.reply.head.at_, Sr l.reply.proof.name, Sl a3 l.reply.proof.entries.length c3, Sl a4 l.reply.proof.sides.length c4]], [Sg b1 0 [I n.now, Sl a1 n.way.length c1]]] ?_
  refine runL_nil ?_
  refine tq_then ?_
  refine tc_seq ?_
  refine tc_rb [0,2,0,0] [(4, Pt b2 0), (7, Sl a5 l.heads.length c5), (8, Sl a6 l.reply.proof.sides.length c6), (9, Pt b3 0), (33, I (((ws1.length : Nat) : Int))), (34, I 0)] ?_
  refine tc_block ?_
  refine tc_loop (σ := Nat × Mem) (fun q_ => (Mem.le G2 q_.2) ∧ (q_.1 ≤ ws1.length) ∧ (WayOk G2 q_.2 a7 ws1)) (fun q_ => [(4, Pt b2 0), (7, Sl a5 l.heads.length c5), (8, Sl a6 l.reply.proof.sides.length c6), (9, Pt b3 0), (33, I (((ws1.length : Nat) : Int))), (34, I ((q_.1 : Int)))]) (fun q_ => q_.2) (fun q_ => [[Sg b3 0 [I nw1, Sl a7 ws1.length c7]], r2, r1, [Sg b2 0 [I l.to_, I l.from_, I l.since, I l.due, Sl a2 l.heads.length c2, I l.reply.head.epoch, U l.reply.head.root, U l.reply.head.prev, I l.reply.head.at_, Sr l.reply.proof.name, Sl a3 l.reply.proof.entries.length c3, Sl a4 l.reply.proof.sides.length c4]], [Sg b1 0 [I n.now, Sl a1 n.way.length c1]]]) (fun q_ => ws1.length - q_.1) ((0, G3)) ⟨hl3, (by (try dsimp only); first | exact Nat.zero_le _ | omega | simp), hway_⟩ (fun q_ hs => ?_)
  obtain ⟨i, g⟩ := q_
  obtain ⟨hle, hi, hway0⟩ := hs
  dsimp only at hle hi hway0
  refine tc_eq (fr' := [(4, Pt b2 0), (7, Sl a5 l.heads.length c5), (8, Sl a6 l.reply.proof.sides.length c6), (9, Pt b3 0), (33, I (((ws1.length : Nat) : Int))), (34, I ((i : Int)))]) (L' := [[Sg b3 0 [I nw1, Sl a7 ws1.length c7]], r2, r1, [Sg b2 0 [I l.to_, I l.from_, I l.since, I l.due, Sl a2 l.heads.length c2, I l.reply.head.epoch, U l.reply.head.root, U l.reply.head.prev, I l.reply.head.at_, Sr l.reply.proof.name, Sl a3 l.reply.proof.entries.length c3, Sl a4 l.reply.proof.sides.length c4]], [Sg b1 0 [I n.now, Sl a1 n.way.length c1]]]) rfl rfl ?_
  refine tc_rb [0] [(4, Pt b2 0), (7, Sl a5 l.heads.length c5), (8, Sl a6 l.reply.proof.sides.length c6), (9, Pt b3 0), (33, I (((ws1.length : Nat) : Int))), (34, I ((i : Int))), (35, Bo (decide ((i : Int) < ((ws1.length : Nat) : Int))))] ?_
  refine tc_seq ?_
  refine tc_cond (decide ((i : Int) < ((ws1.length : Nat) : Int))) (fun h1 => ?_) (fun h1 => ?_)
  ·
    try simp only [decide_eq_true_eq, decide_eq_false_iff_not, Bool.and_eq_true, Bool.or_eq_true, Bool.and_eq_false_imp, Bool.or_eq_false_iff, Bool.not_eq_true', Bool.not_eq_false', Bool.not_eq_true, Bool.not_eq_false, beq_iff_eq, beq_eq_false_iff_ne, bne_iff_ne, ne_eq, Decidable.not_not, Int.not_lt, Int.not_le] at h1
    refine tc_skip ?_
    refine tq_then ?_
    refine tc_seq ?_
    refine tc_block ?_
    refine tc_rb [0,0] [(4, Pt b2 0), (7, Sl a5 l.heads.length c5), (8, Sl a6 l.reply.proof.sides.length c6), (9, Pt b3 0), (11, I ((i : Int))), (33, I (((ws1.length : Nat) : Int))), (34, I ((i : Int)))] ?_
    refine tc_seq ?_
    refine tc_seq ?_
    refine tc_region ?_
    refine runL_b [0,2,0] [(4, Pt b2 0), (7, Sl a5 l.heads.length c5), (8, Sl a6 l.reply.proof.sides.length c6), (9, Pt b3 0), (11, I ((i : Int))), (33, I (((ws1.length : Nat) : Int))), (34, I ((i : Int))), (38, Sl a7 ws1.length c7), (39, I ((i : Int)))] ?_
    obtain ⟨bw1, ow1, rfl⟩ := RS.addr hw1 (k := i) (by omega)
    obtain ⟨w11, hwi1⟩ := getX (l := ws1) (k := i) (by omega)
    obtain ⟨a8, c8, a9, c9, hc1, hc2, hi1, hi2, hb1, hb2⟩ := hway0 _ _ rfl i _ hwi1
    refine runL_idx (b := bw1) (off := ow1) (len := ws1.length) (cap := c7) (ik := .i64) 40 36 12 i (by omega) ?_
    refine runL_b [0] [(4, Pt b2 0), (7, Sl a5 l.heads.length c5), (8, Sl a6 l.reply.proof.sides.length c6), (9, Pt b3 0), (11, I ((i : Int))), (33, I (((ws1.length : Nat) : Int))), (34, I ((i : Int))), (41, Pt bw1 (ow1 + i * 12 + 4))] ?_
    refine runL_ldG (b := bw1) (o' := ow1 + i * 12 + 4) 42 25 (cs := [Sl a8 w11.1 c8]) 0 (Sl a8 w11.1 c8) (one_g hc1) ?_
    refine runL_b [0,0] [(4, Pt b2 0), (7, Sl a5 l.heads.length c5), (8, Sl a6 l.reply.proof.sides.length c6), (9, Pt b3 0), (11, I ((i : Int))), (33, I (((ws1.length : Nat) : Int))), (34, I ((i : Int))), (43, I (((w11.1 : Nat) : Int))), (44, I 0)] ?_
    refine runL_nil ?_
    refine tq_then ?_
    refine tc_block ?_
    refine tc_loop (σ := Nat × Mem) (fun q_ => (Mem.le G2 q_.2) ∧ (q_.1 ≤ w11.1) ∧ (WayOk G2 q_.2 (At bw1 ow1) ws1)) (fun q_ => [(4, Pt b2 0), (7, Sl a5 l.heads.length c5), (8, Sl a6 l.reply.proof.sides.length c6), (9, Pt b3 0), (11, I ((i : Int))), (33, I (((ws1.length : Nat) : Int))), (34, I ((i : Int))), (43, I (((w11.1 : Nat) : Int))), (44, I ((q_.1 : Int)))]) (fun q_ => q_.2) (fun q_ => [[Sg b3 0 [I nw1, Sl (At bw1 ow1) ws1.length c7]], r2, r1, [Sg b2 0 [I l.to_, I l.from_, I l.since, I l.due, Sl a2 l.heads.length c2, I l.reply.head.epoch, U l.reply.head.root, U l.reply.head.prev, I l.reply.head.at_, Sr l.reply.proof.name, Sl a3 l.reply.proof.entries.length c3, Sl a4 l.reply.proof.sides.length c4]], [Sg b1 0 [I n.now, Sl a1 n.way.length c1]]]) (fun q_ => w11.1 - q_.1) ((0, g)) ⟨hle, (by (try dsimp only); first | exact Nat.zero_le _ | omega | simp), hway0⟩ (fun q_ hs => ?_)
    obtain ⟨k, g1_⟩ := q_
    obtain ⟨hle1_, hi, hway1⟩ := hs
    dsimp only at hle1_ hi hway1
    refine tc_eq (fr' := [(4, Pt b2 0), (7, Sl a5 l.heads.length c5), (8, Sl a6 l.reply.proof.sides.length c6), (9, Pt b3 0), (11, I ((i : Int))), (33, I (((ws1.length : Nat) : Int))), (34, I ((i : Int))), (43, I (((w11.1 : Nat) : Int))), (44, I ((k : Int)))]) (L' := [[Sg b3 0 [I nw1, Sl (At bw1 ow1) ws1.length c7]], r2, r1, [Sg b2 0 [I l.to_, I l.from_, I l.since, I l.due, Sl a2 l.heads.length c2, I l.reply.head.epoch, U l.reply.head.root, U l.reply.head.prev, I l.reply.head.at_, Sr l.reply.proof.name, Sl a3 l.reply.proof.entries.length c3, Sl a4 l.reply.proof.sides.length c4]], [Sg b1 0 [I n.now, Sl a1 n.way.length c1]]]) rfl rfl ?_
    refine tc_rb [0] [(4, Pt b2 0), (7, Sl a5 l.heads.length c5), (8, Sl a6 l.reply.proof.sides.length c6), (9, Pt b3 0), (11, I ((i : Int))), (33, I (((ws1.length : Nat) : Int))), (34, I ((i : Int))), (43, I (((w11.1 : Nat) : Int))), (44, I ((k : Int))), (45, Bo (decide ((k : Int) < ((w11.1 : Nat) : Int))))] ?_
    refine tc_seq ?_
    refine tc_cond (decide ((k : Int) < ((w11.1 : Nat) : Int))) (fun h2 => ?_) (fun h2 => ?_)
    ·
      try simp only [decide_eq_true_eq, decide_eq_false_iff_not, Bool.and_eq_true, Bool.or_eq_true, Bool.and_eq_false_imp, Bool.or_eq_false_iff, Bool.not_eq_true', Bool.not_eq_false', Bool.not_eq_true, Bool.not_eq_false, beq_iff_eq, beq_eq_false_iff_ne, bne_iff_ne, ne_eq, Decidable.not_not, Int.not_lt, Int.not_le] at h2
      refine tc_skip ?_
      refine tq_then ?_
      refine tc_seq ?_
      refine tc_block ?_
      refine tc_rb [0,0] [(4, Pt b2 0), (7, Sl a5 l.heads.length c5), (8, Sl a6 l.reply.proof.sides.length c6), (9, Pt b3 0), (11, I ((i : Int))), (12, I ((k : Int))), (33, I (((ws1.length : Nat) : Int))), (34, I ((i : Int))), (43, I (((w11.1 : Nat) : Int))), (44, I ((k : Int)))] ?_
      refine tc_region ?_
      refine runL_b [0,2,0] [(4, Pt b2 0), (7, Sl a5 l.heads.length c5), (8, Sl a6 l.reply.proof.sides.length c6), (9, Pt b3 0), (11, I ((i : Int))), (12, I ((k : Int))), (33, I (((ws1.length : Nat) : Int))), (34, I ((i : Int))), (43, I (((w11.1 : Nat) : Int))), (44, I ((k : Int))), (48, Sl (At bw1 ow1) ws1.length c7), (49, I ((i : Int)))] ?_
      obtain ⟨a10, c10, a11, c11, hc3, hc4, hi3, hi4, hb3, hb4⟩ := hway1 _ _ rfl i _ hwi1
      refine runL_idx (b := bw1) (off := ow1) (len := ws1.length) (cap := c7) (ik := .i64) 50 36 12 i (by omega) ?_
      refine runL_b [0] [(4, Pt b2 0), (7, Sl a5 l.heads.length c5), (8, Sl a6 l.reply.proof.sides.length c6), (9, Pt b3 0), (11, I ((i : Int))), (12, I ((k : Int))), (33, I (((ws1.length : Nat) : Int))), (34, I ((i : Int))), (43, I (((w11.1 : Nat) : Int))), (44, I ((k : Int))), (51, Pt bw1 (ow1 + i * 12 + 4))] ?_
      refine runL_ldG (b := bw1) (o' := ow1 + i * 12 + 4) 52 25 (cs := [Sl a10 w11.1 c10]) 0 (Sl a10 w11.1 c10) (one_g hc3) ?_
      refine runL_b [0] [(4, Pt b2 0), (7, Sl a5 l.heads.length c5), (8, Sl a6 l.reply.proof.sides.length c6), (9, Pt b3 0), (11, I ((i : Int))), (33, I (((ws1.length : Nat) : Int))), (34, I ((i : Int))), (43, I (((w11.1 : Nat) : Int))), (44, I ((k : Int))), (52, Sl a10 w11.1 c10), (53, I ((k : Int)))] ?_
      obtain ⟨bh1, oh1, rfl⟩ := IR.addr hi3 (k := k) (by omega)
      obtain ⟨⟨y1, hy1⟩, ho1⟩ := (hi3.2 _ rfl).2 k (by omega)
      have hy1 : g1_ bh1 (oh1 + k * 4 + 3) = some (I y1) := hy1
      have ho1 : G2 bh1 (oh1 + k * 4 + 3) = none := ho1
      refine runL_idx (b := bh1) (off := oh1) (len := w11.1) (cap := c10) (ik := .i64) 54 28 4 k (by omega) ?_
      refine runL_b [0] [(4, Pt b2 0), (7, Sl a5 l.heads.length c5), (8, Sl a6 l.reply.proof.sides.length c6), (9, Pt b3 0), (11, I ((i : Int))), (33, I (((ws1.length : Nat) : Int))), (34, I ((i : Int))), (43, I (((w11.1 : Nat) : Int))), (44, I ((k : Int))), (52, Sl (At bh1 oh1) w11.1 c10), (53, I ((k : Int))), (55, Pt bh1 (oh1 + k * 4 + 3))] ?_
      refine runL_ldG (b := bh1) (o' := oh1 + k * 4 + 3) 56 2 (cs := [I y1]) 0 (I y1) (one_g hy1) ?_
      refine runL_b [0] [(4, Pt b2 0), (7, Sl a5 l.heads.length c5), (8, Sl a6 l.reply.proof.sides.length c6), (9, Pt b3 0), (11, I ((i : Int))), (33, I (((ws1.length : Nat) : Int))), (34, I ((i : Int))), (43, I (((w11.1 : Nat) : Int))), (44, I ((k : Int))), (52, Sl (At bh1 oh1) w11.1 c10), (53, I ((k : Int))), (57, I (IntKind.i64.wrap (y1 + 1)))] ?_
      refine runL_idx (b := bh1) (off := oh1) (len := w11.1) (cap := c10) (ik := .i64) 58 28 4 k (by omega) ?_
      refine runL_b [0] [(4, Pt b2 0), (7, Sl a5 l.heads.length c5), (8, Sl a6 l.reply.proof.sides.length c6), (9, Pt b3 0), (11, I ((i : Int))), (33, I (((ws1.length : Nat) : Int))), (34, I ((i : Int))), (43, I (((w11.1 : Nat) : Int))), (44, I ((k : Int))), (57, I (IntKind.i64.wrap (y1 + 1))), (59, Pt bh1 (oh1 + k * 4 + 3))] ?_
      have hle1 := le_upd hle1_ ho1 (I (IntKind.i64.wrap (y1 + 1)))
      have hwy1 := WayOk.upd hway1 hy1 (IntKind.i64.wrap (y1 + 1))
      refine runL_stT (I (IntKind.i64.wrap (y1 + 1))) (I y1) hy1 (out_le hg0_ ho1) ?_
      refine runL_nil ?_
      refine tq_block ?_
      refine tq_then ?_
      refine tc_region ?_
      refine runL_b [0,0] [(4, Pt b2 0), (7, Sl a5 l.heads.length c5), (8, Sl a6 l.reply.proof.sides.length c6), (9, Pt b3 0), (11, I ((i : Int))), (33, I (((ws1.length : Nat) : Int))), (34, I ((i : Int))), (43, I (((w11.1 : Nat) : Int))), (44, I (IntKind.i64.wrap (((k : Int)) + 1)))] ?_
      have e1 : IntKind.i64.wrap (((k : Int)) + 1) = ((k : Int)) + 1 := IntWalk.i64_in _ (by omega)
      refine runL_eq (fr' := [(4, Pt b2 0), (7, Sl a5 l.heads.length c5), (8, Sl a6 l.reply.proof.sides.length c6), (9, Pt b3 0), (11, I ((i : Int))), (33, I (((ws1.length : Nat) : Int))), (34, I ((i : Int))), (43, I (((w11.1 : Nat) : Int))), (44, I (((k : Int)) + 1))]) (L' := [[Sg b3 0 [I nw1, Sl (At bw1 ow1) ws1.length c7]], r2, r1, [Sg b2 0 [I l.to_, I l.from_, I l.since, I l.due, Sl a2 l.heads.length c2, I l.reply.head.epoch, U l.reply.head.root, U l.reply.head.prev, I l.reply.head.at_, Sr l.reply.proof.name, Sl a3 l.reply.proof.entries.length c3, Sl a4 l.reply.proof.sides.length c4]], [Sg b1 0 [I n.now, Sl a1 n.way.length c1]]]) (by simp only [e1]) (by rfl) ?_
      clear e1
      refine runL_nil ?_
      exact tq_rnd ((k + 1, (Mem.upd g1_ bh1 (oh1 + k * 4 + 3) (I (IntKind.i64.wrap (y1 + 1)))))) ⟨hle1, (by omega), hwy1⟩ (by (try dsimp only); omega)
    ·
      try simp only [decide_eq_true_eq, decide_eq_false_iff_not, Bool.and_eq_true, Bool.or_eq_true, Bool.and_eq_false_imp, Bool.or_eq_false_iff, Bool.not_eq_true', Bool.not_eq_false', Bool.not_eq_true, Bool.not_eq_false, beq_iff_eq, beq_eq_false_iff_ne, bne_iff_ne, ne_eq, Decidable.not_not, Int.not_lt, Int.not_le] at h2
      refine tc_exit ?_
      refine tq_then_exit ?_
      refine tq_rnd_exit ?_
      refine tq_block_here ?_
      refine tq_then ?_
      refine tc_seq ?_
      refine tc_region ?_
      refine runL_b [0,2,0] [(4, Pt b2 0), (7, Sl a5 l.heads.length c5), (8, Sl a6 l.reply.proof.sides.length c6), (9, Pt b3 0), (11, I ((i : Int))), (33, I (((ws1.length : Nat) : Int))), (34, I ((i : Int))), (62, Sl (At bw1 ow1) ws1.length c7), (63, I ((i : Int)))] ?_
      obtain ⟨a12, c12, a13, c13, hc5, hc6, hi5, hi6, hb5, hb6⟩ := hway1 _ _ rfl i _ hwi1
      refine runL_idx (b := bw1) (off := ow1) (len := ws1.length) (cap := c7) (ik := .i64) 64 36 12 i (by omega) ?_
      refine runL_b [0,0,0] [(4, Pt b2 0), (7, Sl a5 l.heads.length c5), (8, Sl a6 l.reply.proof.sides.length c6), (9, Pt b3 0), (11, I ((i : Int))), (33, I (((ws1.length : Nat) : Int))), (34, I ((i : Int))), (67, Pt bw1 (ow1 + i * 12 + 5 + 4 + 2))] ?_
      refine runL_ldG (b := bw1) (o' := ow1 + i * 12 + 5 + 4 + 2) 68 30 (cs := [Sl a13 w11.2 c13]) 0 (Sl a13 w11.2 c13) (one_g hc6) ?_
      refine runL_b [0,0] [(4, Pt b2 0), (7, Sl a5 l.heads.length c5), (8, Sl a6 l.reply.proof.sides.length c6), (9, Pt b3 0), (11, I ((i : Int))), (33, I (((ws1.length : Nat) : Int))), (34, I ((i : Int))), (69, I (((w11.2 : Nat) : Int))), (70, I 0)] ?_
      refine runL_nil ?_
      refine tq_then ?_
      refine tc_block ?_
      refine tc_loop (σ := Nat × Mem) (fun q_ => (Mem.le G2 q_.2) ∧ (q_.1 ≤ w11.2) ∧ (WayOk G2 q_.2 (At bw1 ow1) ws1)) (fun q_ => [(4, Pt b2 0), (7, Sl a5 l.heads.length c5), (8, Sl a6 l.reply.proof.sides.length c6), (9, Pt b3 0), (11, I ((i : Int))), (33, I (((ws1.length : Nat) : Int))), (34, I ((i : Int))), (69, I (((w11.2 : Nat) : Int))), (70, I ((q_.1 : Int)))]) (fun q_ => q_.2) (fun q_ => [[Sg b3 0 [I nw1, Sl (At bw1 ow1) ws1.length c7]], r2, r1, [Sg b2 0 [I l.to_, I l.from_, I l.since, I l.due, Sl a2 l.heads.length c2, I l.reply.head.epoch, U l.reply.head.root, U l.reply.head.prev, I l.reply.head.at_, Sr l.reply.proof.name, Sl a3 l.reply.proof.entries.length c3, Sl a4 l.reply.proof.sides.length c4]], [Sg b1 0 [I n.now, Sl a1 n.way.length c1]]]) (fun q_ => w11.2 - q_.1) ((0, g1_)) ⟨hle1_, (by (try dsimp only); first | exact Nat.zero_le _ | omega | simp), hway1⟩ (fun q_ hs => ?_)
      obtain ⟨m, g2_⟩ := q_
      obtain ⟨hle2_, hi, hway2⟩ := hs
      dsimp only at hle2_ hi hway2
      refine tc_eq (fr' := [(4, Pt b2 0), (7, Sl a5 l.heads.length c5), (8, Sl a6 l.reply.proof.sides.length c6), (9, Pt b3 0), (11, I ((i : Int))), (33, I (((ws1.length : Nat) : Int))), (34, I ((i : Int))), (69, I (((w11.2 : Nat) : Int))), (70, I ((m : Int)))]) (L' := [[Sg b3 0 [I nw1, Sl (At bw1 ow1) ws1.length c7]], r2, r1, [Sg b2 0 [I l.to_, I l.from_, I l.since, I l.due, Sl a2 l.heads.length c2, I l.reply.head.epoch, U l.reply.head.root, U l.reply.head.prev, I l.reply.head.at_, Sr l.reply.proof.name, Sl a3 l.reply.proof.entries.length c3, Sl a4 l.reply.proof.sides.length c4]], [Sg b1 0 [I n.now, Sl a1 n.way.length c1]]]) rfl rfl ?_
      refine tc_rb [0] [(4, Pt b2 0), (7, Sl a5 l.heads.length c5), (8, Sl a6 l.reply.proof.sides.length c6), (9, Pt b3 0), (11, I ((i : Int))), (33, I (((ws1.length : Nat) : Int))), (34, I ((i : Int))), (69, I (((w11.2 : Nat) : Int))), (70, I ((m : Int))), (71, Bo (decide ((m : Int) < ((w11.2 : Nat) : Int))))] ?_
      refine tc_seq ?_
      refine tc_cond (decide ((m : Int) < ((w11.2 : Nat) : Int))) (fun h3 => ?_) (fun h3 => ?_)
      ·
        try simp only [decide_eq_true_eq, decide_eq_false_iff_not, Bool.and_eq_true, Bool.or_eq_true, Bool.and_eq_false_imp, Bool.or_eq_false_iff, Bool.not_eq_true', Bool.not_eq_false', Bool.not_eq_true, Bool.not_eq_false, beq_iff_eq, beq_eq_false_iff_ne, bne_iff_ne, ne_eq, Decidable.not_not, Int.not_lt, Int.not_le] at h3
        refine tc_skip ?_
        refine tq_then ?_
        refine tc_seq ?_
        refine tc_block ?_
        refine tc_rb [0,0] [(4, Pt b2 0), (7, Sl a5 l.heads.length c5), (8, Sl a6 l.reply.proof.sides.length c6), (9, Pt b3 0), (11, I ((i : Int))), (13, I ((m : Int))), (33, I (((ws1.length : Nat) : Int))), (34, I ((i : Int))), (69, I (((w11.2 : Nat) : Int))), (70, I ((m : Int)))] ?_
        refine tc_region ?_
        refine runL_b [0,2,0] [(4, Pt b2 0), (7, Sl a5 l.heads.length c5), (8, Sl a6 l.reply.proof.sides.length c6), (9, Pt b3 0), (11, I ((i : Int))), (13, I ((m : Int))), (33, I (((ws1.length : Nat) : Int))), (34, I ((i : Int))), (69, I (((w11.2 : Nat) : Int))), (70, I ((m : Int))), (74, Sl (At bw1 ow1) ws1.length c7), (75, I ((i : Int)))] ?_
        obtain ⟨a14, c14, a15, c15, hc7, hc8, hi7, hi8, hb7, hb8⟩ := hway2 _ _ rfl i _ hwi1
        refine runL_idx (b := bw1) (off := ow1) (len := ws1.length) (cap := c7) (ik := .i64) 76 36 12 i (by omega) ?_
        refine runL_b [0,0,0] [(4, Pt b2 0), (7, Sl a5 l.heads.length c5), (8, Sl a6 l.reply.proof.sides.length c6), (9, Pt b3 0), (11, I ((i : Int))), (13, I ((m : Int))), (33, I (((ws1.length : Nat) : Int))), (34, I ((i : Int))), (69, I (((w11.2 : Nat) : Int))), (70, I ((m : Int))), (79, Pt bw1 (ow1 + i * 12 + 5 + 4 + 2))] ?_
        refine runL_ldG (b := bw1) (o' := ow1 + i * 12 + 5 + 4 + 2) 80 30 (cs := [Sl a15 w11.2 c15]) 0 (Sl a15 w11.2 c15) (one_g hc8) ?_
        refine runL_b [0] [(4, Pt b2 0), (7, Sl a5 l.heads.length c5), (8, Sl a6 l.reply.proof.sides.length c6), (9, Pt b3 0), (11, I ((i : Int))), (33, I (((ws1.length : Nat) : Int))), (34, I ((i : Int))), (69, I (((w11.2 : Nat) : Int))), (70, I ((m : Int))), (80, Sl a15 w11.2 c15), (81, I ((m : Int)))] ?_
        obtain ⟨bh2, oh2, rfl⟩ := IR.addr hi8 (k := m) (by omega)
        obtain ⟨⟨y2, hy2⟩, ho2⟩ := (hi8.2 _ rfl).2 m (by omega)
        have hy2 : g2_ bh2 (oh2 + m * 1) = some (U y2) := hy2
        have ho2 : G2 bh2 (oh2 + m * 1) = none := ho2
        refine runL_idx (b := bh2) (off := oh2) (len := w11.2) (cap := c15) (ik := .i64) 82 26 1 m (by omega) ?_
        refine runL_ldG (b := bh2) (o' := oh2 + m * 1) 83 26 (cs := [U y2]) 0 (U y2) (one_g hy2) ?_
        refine runL_b [0] [(4, Pt b2 0), (7, Sl a5 l.heads.length c5), (8, Sl a6 l.reply.proof.sides.length c6), (9, Pt b3 0), (11, I ((i : Int))), (33, I (((ws1.length : Nat) : Int))), (34, I ((i : Int))), (69, I (((w11.2 : Nat) : Int))), (70, I ((m : Int))), (80, Sl (At bh2 oh2) w11.2 c15), (81, I ((m : Int))), (84, U (IntKind.u64.wrap (y2 + 1)))] ?_
        refine runL_idx (b := bh2) (off := oh2) (len := w11.2) (cap := c15) (ik := .i64) 85 26 1 m (by omega) ?_
        have hle2 := le_upd hle2_ ho2 (U (IntKind.u64.wrap (y2 + 1)))
        have hwy2 := WayOk.upd hway2 hy2 (IntKind.u64.wrap (y2 + 1))
        refine runL_stT (U (IntKind.u64.wrap (y2 + 1))) (U y2) hy2 (out_le hg0_ ho2) ?_
        refine runL_nil ?_
        refine tq_block ?_
        refine tq_then ?_
        refine tc_region ?_
        refine runL_b [0,0] [(4, Pt b2 0), (7, Sl a5 l.heads.length c5), (8, Sl a6 l.reply.proof.sides.length c6), (9, Pt b3 0), (11, I ((i : Int))), (33, I (((ws1.length : Nat) : Int))), (34, I ((i : Int))), (69, I (((w11.2 : Nat) : Int))), (70, I (IntKind.i64.wrap (((m : Int)) + 1)))] ?_
        have e2 : IntKind.i64.wrap (((m : Int)) + 1) = ((m : Int)) + 1 := IntWalk.i64_in _ (by omega)
        refine runL_eq (fr' := [(4, Pt b2 0), (7, Sl a5 l.heads.length c5), (8, Sl a6 l.reply.proof.sides.length c6), (9, Pt b3 0), (11, I ((i : Int))), (33, I (((ws1.length : Nat) : Int))), (34, I ((i : Int))), (69, I (((w11.2 : Nat) : Int))), (70, I (((m : Int)) + 1))]) (L' := [[Sg b3 0 [I nw1, Sl (At bw1 ow1) ws1.length c7]], r2, r1, [Sg b2 0 [I l.to_, I l.from_, I l.since, I l.due, Sl a2 l.heads.length c2, I l.reply.head.epoch, U l.reply.head.root, U l.reply.head.prev, I l.reply.head.at_, Sr l.reply.proof.name, Sl a3 l.reply.proof.entries.length c3, Sl a4 l.reply.proof.sides.length c4]], [Sg b1 0 [I n.now, Sl a1 n.way.length c1]]]) (by simp only [e2]) (by rfl) ?_
        clear e2
        refine runL_nil ?_
        exact tq_rnd ((m + 1, (Mem.upd g2_ bh2 (oh2 + m * 1) (U (IntKind.u64.wrap (y2 + 1)))))) ⟨hle2, (by omega), hwy2⟩ (by (try dsimp only); omega)
      ·
        try simp only [decide_eq_true_eq, decide_eq_false_iff_not, Bool.and_eq_true, Bool.or_eq_true, Bool.and_eq_false_imp, Bool.or_eq_false_iff, Bool.not_eq_true', Bool.not_eq_false', Bool.not_eq_true, Bool.not_eq_false, beq_iff_eq, beq_eq_false_iff_ne, bne_iff_ne, ne_eq, Decidable.not_not, Int.not_lt, Int.not_le] at h3
        refine tc_exit ?_
        refine tq_then_exit ?_
        refine tq_rnd_exit ?_
        refine tq_block_here ?_
        refine tq_block ?_
        refine tq_then ?_
        refine tc_region ?_
        refine runL_b [0,0] [(4, Pt b2 0), (7, Sl a5 l.heads.length c5), (8, Sl a6 l.reply.proof.sides.length c6), (9, Pt b3 0), (33, I (((ws1.length : Nat) : Int))), (34, I (IntKind.i64.wrap (((i : Int)) + 1)))] ?_
        have e3 : IntKind.i64.wrap (((i : Int)) + 1) = ((i : Int)) + 1 := IntWalk.i64_in _ (by omega)
        refine runL_eq (fr' := [(4, Pt b2 0), (7, Sl a5 l.heads.length c5), (8, Sl a6 l.reply.proof.sides.length c6), (9, Pt b3 0), (33, I (((ws1.length : Nat) : Int))), (34, I (((i : Int)) + 1))]) (L' := [[Sg b3 0 [I nw1, Sl (At bw1 ow1) ws1.length c7]], r2, r1, [Sg b2 0 [I l.to_, I l.from_, I l.since, I l.due, Sl a2 l.heads.length c2, I l.reply.head.epoch, U l.reply.head.root, U l.reply.head.prev, I l.reply.head.at_, Sr l.reply.proof.name, Sl a3 l.reply.proof.entries.length c3, Sl a4 l.reply.proof.sides.length c4]], [Sg b1 0 [I n.now, Sl a1 n.way.length c1]]]) (by simp only [e3]) (by rfl) ?_
        clear e3
        refine runL_nil ?_
        exact tq_rnd ((i + 1, g2_)) ⟨hle2_, (by omega), hway2⟩ (by (try dsimp only); omega)
  ·
    try simp only [decide_eq_true_eq, decide_eq_false_iff_not, Bool.and_eq_true, Bool.or_eq_true, Bool.and_eq_false_imp, Bool.or_eq_false_iff, Bool.not_eq_true', Bool.not_eq_false', Bool.not_eq_true, Bool.not_eq_false, beq_iff_eq, beq_eq_false_iff_ne, bne_iff_ne, ne_eq, Decidable.not_not, Int.not_lt, Int.not_le] at h1
    refine tc_exit ?_
    refine tq_then_exit ?_
    refine tq_rnd_exit ?_
    refine tq_block_here ?_
    refine tq_then ?_
    refine tc_seq ?_
    refine tc_region ?_
    refine runL_b [0,8,0] [(4, Pt b2 0), (8, Sl a6 l.reply.proof.sides.length c6), (89, Sl a2 l.heads.length c2), (90, Sl a5 l.heads.length c5)] ?_
    refine runL_frzR (E := EHead) 2 (hr1.mono (Mem.le_trans hl2 hle)) (by exact (hs2).fit) (fun G4 hl4 hs5 => ?_)
    refine runL_callV 91 (Bo (decide (l.heads = l.heads))) (seq_EHead G4 a2 c2 l.heads (hs2.mono (Mem.le_trans (Mem.le_trans (Mem.le_trans hl1 hl2) hle) hl4)) a5 c5 l.heads hs5) ?_
    refine runL_b [0] [(4, Pt b2 0), (8, Sl a6 l.reply.proof.sides.length c6), (92, Bo (decide (l.heads = l.heads)))] ?_
    refine runL_cases (fun bb => [(4, Pt b2 0), (8, Sl a6 l.reply.proof.sides.length c6), (92, Bo bb)]) (decide (l.heads = l.heads)) (fun h4 => ?_) (fun h4 => ?_)
    ·
      try simp only [decide_eq_true_eq, decide_eq_false_iff_not, Bool.and_eq_true, Bool.or_eq_true, Bool.and_eq_false_imp, Bool.or_eq_false_iff, Bool.not_eq_true', Bool.not_eq_false', Bool.not_eq_true, Bool.not_eq_false, beq_iff_eq, beq_eq_false_iff_ne, bne_iff_ne, ne_eq, Decidable.not_not, Int.not_lt, Int.not_le] at h4
      refine runL_b [0,0,0,8,0] [(92, Bo true), (96, Sl a4 l.reply.proof.sides.length c4), (97, Sl a6 l.reply.proof.sides.length c6)] ?_
      refine runL_frzR (E := EU) 1 (hr2.mono (Mem.le_trans hle hl4)) (by exact ((hs4.mono hl1)).fit) (fun G5 hl5 hs6 => ?_)
      refine runL_callV 98 (Bo (decide (l.reply.proof.sides = l.reply.proof.sides))) (seq_EU G5 a4 c4 l.reply.proof.sides (hs4.mono (Mem.le_trans (Mem.le_trans (Mem.le_trans (Mem.le_trans hl1 hl2) hle) hl4) hl5)) a6 c6 l.reply.proof.sides hs6) ?_
      refine runL_b [0,0] [(6, Bo (decide (l.reply.proof.sides = l.reply.proof.sides)))] ?_
      refine runL_nil ?_
      refine tq_then ?_
      refine tc_ret ?_
      refine tq_ret [0] [Bo (decide (l.reply.proof.sides = l.reply.proof.sides))] (bp_ret (Mem.le_trans (Mem.le_trans (Mem.le_trans (Mem.le_trans hl1 hl2) hle) hl4) hl5) ?_)
      have hf_ : (decide (l.reply.proof.sides = l.reply.proof.sides)) = true := by
        first | (simp; done) | (simp at h4; done)
      exact congrArg Bo hf_
    ·
      try simp only [decide_eq_true_eq, decide_eq_false_iff_not, Bool.and_eq_true, Bool.or_eq_true, Bool.and_eq_false_imp, Bool.or_eq_false_iff, Bool.not_eq_true', Bool.not_eq_false', Bool.not_eq_true, Bool.not_eq_false, beq_iff_eq, beq_eq_false_iff_ne, bne_iff_ne, ne_eq, Decidable.not_not, Int.not_lt, Int.not_le] at h4
      refine runL_b [1,1,1,1,1,1,0,0] [(6, Bo false)] ?_
      refine runL_nil ?_
      refine tq_then ?_
      refine tc_ret ?_
      refine tq_ret [0] [Bo false] (bp_ret (Mem.le_trans (Mem.le_trans (Mem.le_trans hl1 hl2) hle) hl4) ?_)
      exfalso
      first | (simp; done) | (simp at h4; done)
end Go.Proofs.Ytjpdpeaolkclfaa
