import Derived.Test.YtpofnmobbbcpgaaGreatDoorZaTick
namespace Go.Proofs.YtpofnmobbbcpgaaGreatDoor
open Go.Tx
set_option linter.unusedVariables false
set_option linter.unusedSimpArgs false
open Go.RowKit
def Mem.upd (G : Mem) (b o : Nat) (v : Value) : Mem := fun b' o' => if b' = b ∧ o' = o then some v else G b' o'
theorem upd_same (G : Mem) (b o : Nat) (v : Value) : Mem.upd G b o v b o = some v := by unfold Mem.upd; rw [if_pos ⟨rfl, rfl⟩]
theorem upd_other {G : Mem} {b o : Nat} {v : Value} {b' o' : Nat} (h : ¬ (b' = b ∧ o' = o)) : Mem.upd G b o v b' o' = G b' o' := by unfold Mem.upd; rw [if_neg h]
theorem le_upd {A G : Mem} {b o : Nat} (h : Mem.le A G) (h0 : A b o = none) (v : Value) : Mem.le A (Mem.upd G b o v) := by
  intro b' o' u hu
  rw [upd_other]
  · exact h _ _ _ hu
  · rintro ⟨rfl, rfl⟩; rw [h0] at hu; cases hu
theorem out_le {A G : Mem} (h : Mem.le A G) {b o : Nat} (h0 : G b o = none) : A b o = none := by
  cases ha : A b o with
  | none => rfl
  | some u => have := h _ _ _ ha; rw [h0] at this; cases this
theorem St.stT {w0 w : World} {G0 G : Mem} {L : List (List Seg)} (h : St w0 G0 w G L) {b o : Nat} {u : Value} (hc : G b o = some u) (h0 : G0 b o = none) (v : Value) : w.frozen? ⟨b, o, none⟩ = false ∧ St w0 G0 (w.setCell ⟨b, o, none⟩ v) (Mem.upd G b o v) L := by
  obtain ⟨hb, hfz⟩ : w0.heap.size ≤ b ∧ w.frozen? ⟨b, o, none⟩ = false := by
    rcases h.fresh b o u hc with h1 | h1
    · rw [h0] at h1; cases h1
    · exact h1
  have hcell := h.mem _ _ _ hc
  refine ⟨hfz, h.below.setCell (p := ⟨b, o, none⟩) hb v, fun b' o' v' hv => ?_, le_upd h.grow h0 v, fun b' o' v' hv => ?_, fun s hs => ?_, h.apart⟩
  · by_cases e : b' = b ∧ o' = o
    · obtain ⟨rfl, rfl⟩ := e
      rw [upd_same] at hv
      rw [World.cell?_setCell_same _ _ _ hcell]; exact hv
    · rw [upd_other e] at hv
      rw [World.cell?_setCell_other]
      · exact h.mem _ _ _ hv
      · intro hh; cases hh; exact e ⟨rfl, rfl⟩
  · rw [World.frozen?_setCell]
    by_cases e : b' = b ∧ o' = o
    · obtain ⟨rfl, rfl⟩ := e; exact .inr ⟨hb, hfz⟩
    · rw [upd_other e] at hv; exact h.fresh _ _ _ hv
  · obtain ⟨o1, o2, o3, o4⟩ := h.own s hs
    refine ⟨o1, fun i x hx => ?_, fun x hx => ?_, fun e he => ⟨(o4 e he).1, shape_setCell (o4 e he).2⟩⟩
    · obtain ⟨q1, q2, q3⟩ := o2 i x hx
      have hne : ¬ (s.b = b ∧ s.off + i = o) := by rintro ⟨rfl, rfl⟩; rw [q3] at hc; cases hc
      refine ⟨?_, by rw [World.frozen?_setCell]; exact q2, by rw [upd_other hne]; exact q3⟩
      rw [World.cell?_setCell_other]
      · exact q1
      · intro hh; cases hh; exact hne ⟨rfl, rfl⟩
    · obtain ⟨q1, q2, q3⟩ := o3 x hx
      have hne : s.b ≠ b := by
        intro hh; rw [hh] at q2
        have := cell_not_ob hcell q2
        rw [q1] at this; cases this
      exact ⟨q1, (Below.heap_setCell _ _ _ _ hne).trans q2, q3⟩
theorem runL_stT {C : Cx} {Q : Exit → Act → World → Prop} {fr : List (Nat × Value)} {G : Mem} {L : List (List Seg)} {ops : Array Oper} {rest : List Oper} {o : Oper} {p q : Nat} (v u : Value) (hg : G p q = some u) (h0 : C.G0 p q = none)
    (h : RunL C ops Q rest fr (Mem.upd G p q v) L)
    (hc : (chkSt C.P ops fr o 1, v.cells.toList, v.oneCell') = (some (Pt p q, v), [v], true) := by as_aux_lemma => kernel_rfl) : RunL C ops Q (o :: rest) fr G L := by
  intro a w ha hw
  simp only [Prod.mk.injEq] at hc
  obtain ⟨hc, hvs, hone⟩ := hc
  unfold chkSt at hc
  split at hc
  case h_2 => cases hc
  rename_i t x y hop
  cases hx : (o.dst.isNone && wantB true (wantedF ops fr o) && cov fr x && cov fr y && (C.P.info? t).isSome && Nat.beq (C.P.cellsOf t) 1) with
  | false => rw [hx] at hc; cases hc
  | true =>
    rw [hx] at hc
    simp only [cond_true, Option.some.injEq, Prod.mk.injEq] at hc
    simp only [Bool.and_eq_true, Option.isNone_iff_eq_none] at hx
    obtain ⟨⟨⟨⟨⟨hd, hwt⟩, hcx⟩, hcy⟩, hinf⟩, hsz⟩ := hx
    have hsz' := Nat.eq_of_beq_eq_true hsz
    have hwant : wantedF ops fr o = some true := by
      cases hx : wantedF ops fr o with
      | none => rw [hx] at hwt; simp [wantB] at hwt
      | some b => rw [hx] at hwt; simp [wantB] at hwt; rw [← hwt]
    obtain ⟨hfz, hS⟩ := St.stT hw hg h0 v
    have hl := run_storeVar_seg (P := C.P) (t := t) (w := w) (b := p) (off := q) (v := v) hinf (by rw [hvs, hsz']; rfl) (by rw [hvs]; simpa using hone)
      (fun j hj => by rw [hvs] at hj; have : j = 0 := by simp at hj; exact hj
                      subst this; exact ⟨_, hw.mem _ _ _ hg⟩)
      (fun j hj => by rw [hvs] at hj; have : j = 0 := by simp at hj; exact hj
                      subst this; exact hfz)
    rw [hvs] at hl
    have hE : a.eval x = .pointer (some ⟨p, q, none⟩) := (ha.eval x hcx).trans hc.1
    have hE' : a.eval y = v := (ha.eval y hcy).trans hc.2
    unfold wpList
    rw [if_pos (wantedF_eq ha hwant)]
    refine .inl ?_
    unfold Oper.wp execOp
    simp only [hop, hE, hE', Instr.storeAt, Instr.sureAddr, Sem.run_bind, Sem.run_pure, Result.andThen_ok, hl]
    show wpList C.P ops Q rest (a.put o.dst undef) _
    rw [hd]
    exact h _ _ ha hS
theorem runL_know {C : Cx} {Q : Exit → Act → World → Prop} {fr : List (Nat × Value)} {G : Mem} {L : List (List Seg)} {ops : Array Oper} {rest : List Oper} {p : Prop} (hp : ∀ w, St C.w0 C.G0 w G L → p) (h : p → RunL C ops Q rest fr G L) : RunL C ops Q rest fr G L := fun a w ha hw => h (hp w hw) a w ha hw
theorem tq_know {C : Cx} {Q : Exit → Act → World → Prop} {fr : List (Nat × Value)} {G : Mem} {L : List (List Seg)} {e : Exit} {p : Prop} (hp : ∀ w, St C.w0 C.G0 w G L → p) (h : p → TQ C Q e fr G L) : TQ C Q e fr G L := fun a w ha hw => h (hp w hw) a w ha hw
theorem TRow.out {α : Type} {E : Elt α} {G : Mem} {a : Option Addr} {c : Nat} {l : List α} {r : List Seg} (hr : TRow E G a c l r) {w0 w : World} {G0 : Mem} {L : List (List Seg)} {i : Nat} (hw : St w0 G0 w G L) (hi : L[i]? = some r) : ∀ ad, a = some ad → ∀ j, j < l.length * E.sz → G ad.block (ad.off + j) = none := by
  obtain ⟨css, h1, h2, h3⟩ := hr.ex
  intro ad ha j hj
  rcases h3.shape with ⟨e, _⟩ | ⟨b, off, spare, e, rfl, _⟩
  · rw [ha] at e; cases e
  · rw [ha] at e; cases e
    have hm : (Sg b off (css.flatten ++ spare)) ∈ L.flatten := by
      obtain ⟨hl, he⟩ := List.getElem?_eq_some_iff.1 hi
      exact List.mem_flatten.2 ⟨_, List.getElem_mem hl, by rw [he]; simp⟩
    have hlen := h3.len
    obtain ⟨_, ho, _⟩ := hw.own _ hm
    exact (ho j _ (List.getElem?_eq_getElem (by simp only [List.length_append]; omega))).2.2
def IR (A G : Mem) (ik : IntKind) (a : Option Addr) (n sz f : Nat) : Prop := (a = none → n = 0) ∧ ∀ ad, a = some ad → (0 < n → ad.spot = none) ∧ ∀ k, k < n → (∃ y, G ad.block (ad.off + k * sz + f) = some (.int ik y)) ∧ A ad.block (ad.off + k * sz + f) = none
theorem IR.mono {A G G' : Mem} {ik : IntKind} {a : Option Addr} {n sz f : Nat} (h : IR A G ik a n sz f) (hle : Mem.le G G') : IR A G' ik a n sz f :=
  ⟨h.1, fun ad ha => ⟨(h.2 ad ha).1, fun k hk => by obtain ⟨⟨y, hy⟩, h2⟩ := (h.2 ad ha).2 k hk; exact ⟨⟨y, hle _ _ _ hy⟩, h2⟩⟩⟩
theorem IR.upd {A G : Mem} {ik jk : IntKind} {a : Option Addr} {n sz f b o : Nat} {y : Int} (h : IR A G ik a n sz f) (hc : G b o = some (.int jk y)) (z : Int) : IR A (Mem.upd G b o (.int jk z)) ik a n sz f :=
  ⟨h.1, fun ad ha => ⟨(h.2 ad ha).1, fun k hk => by
    obtain ⟨⟨y', hy⟩, h2⟩ := (h.2 ad ha).2 k hk
    refine ⟨?_, h2⟩
    by_cases e : ad.block = b ∧ ad.off + k * sz + f = o
    · rw [e.1, e.2] at hy ⊢
      rw [hc] at hy; cases hy
      exact ⟨z, upd_same _ _ _ _⟩
    · exact ⟨y', by rw [upd_other e]; exact hy⟩⟩⟩
theorem IR.addr {A G : Mem} {ik : IntKind} {a : Option Addr} {n sz f k : Nat} (h : IR A G ik a n sz f) (hk : k < n) : ∃ b o, a = At b o := by
  cases a with
  | none => have := h.1 rfl; omega
  | some ad =>
    obtain ⟨b, o, s⟩ := ad
    have hs := (h.2 _ rfl).1 (by omega)
    simp only at hs; subst hs; exact ⟨b, o, rfl⟩
theorem ir_head {A G : Mem} {a : Option Addr} {c : Nat} {l : List HeadD} (h : RS EHead G a c l) (ho : ∀ ad, a = some ad → ∀ j, j < l.length * EHead.sz → A ad.block (ad.off + j) = none) : IR A G .i64 a l.length 4 3 := by
  refine ⟨fun e => ?_, fun ad ha => ⟨fun hn => h.spot ad ha (by have := h.le; omega), fun k hk => ⟨?_, ?_⟩⟩⟩
  · have := h.nil e; have := h.le; omega
  · obtain ⟨cs, h1, h2⟩ := h.elem ad ha k _ (List.getElem?_eq_getElem hk)
    obtain ⟨rfl, _⟩ := h1
    exact ⟨_, h2 3 _ rfl⟩
  · have := ho ad ha (k * 4 + 3) (by simp only [EHead]; omega)
    rwa [← Nat.add_assoc] at this
theorem one_g {G : Mem} {b o : Nat} {v : Value} (h : G b o = some v) : ∀ j u, ([v] : List Value)[j]? = some u → G b (o + j) = some u := by
  intro j u hu
  cases j with
  | zero => simp at hu; rw [← hu]; exact h
  | succ j => simp at hu
def Nw (A : Mem) (a : Option Addr) (n : Nat) : Prop := ∀ ad, a = some ad → ∀ j, j < n → A ad.block (ad.off + j) = none
theorem Nw.none (A : Mem) (n : Nat) : Nw A Option.none n := fun _ h => by cases h
theorem Nw.base {A B : Mem} {a : Option Addr} {n : Nat} (h : Nw B a n) (hle : Mem.le A B) : Nw A a n := fun ad ha j hj => out_le hle (h ad ha j hj)
def EBookN (A : Mem) : Elt (List EntD) := ⟨1, 24, fun G cs x => ∃ a c, cs = [Sl a x.length c] ∧ RS EEnt G a c x ∧ Nw A a (x.length * 2), fun hle h => by obtain ⟨a, c, h1, h2, h3⟩ := h; exact ⟨a, c, h1, h2.mono hle, h3⟩,
  fun h => by obtain ⟨a, c, h1, _⟩ := h; rw [h1]; rfl, fun h => by obtain ⟨a, c, h1, _⟩ := h; rw [h1]; exact one_of rfl, [Sl .none 0 0], fun _ => ⟨[], .none, 0, rfl, RS.nil' _ _, Nw.none _ _⟩⟩
theorem RS.unN {A G : Mem} {a : Option Addr} {c : Nat} {l : List (List EntD)} (h : RS (EBookN A) G a c l) : RS ESlEnt G a c l :=
  ⟨h.le, h.fit, h.max, h.nil, h.spot, fun ad ha i x hx => by obtain ⟨cs, ⟨a1, c1, h1, h2, _⟩, h4⟩ := h.elem ad ha i x hx; exact ⟨cs, ⟨a1, c1, h1, h2⟩, h4⟩⟩
theorem RS.bn {A B G : Mem} {a : Option Addr} {c : Nat} {l : List (List EntD)} (h : RS (EBookN B) G a c l) (hle : Mem.le A B) : RS (EBookN A) G a c l :=
  ⟨h.le, h.fit, h.max, h.nil, h.spot, fun ad ha i x hx => by obtain ⟨cs, ⟨a1, c1, h1, h2, h3⟩, h4⟩ := h.elem ad ha i x hx; exact ⟨cs, ⟨a1, c1, h1, h2, h3.base hle⟩, h4⟩⟩
def EEntB : Elt EntD := ⟨2, 32, fun _ cs x => cs = [Sr x.name, Sr x.value], fun _ h => h, fun h => by rw [h]; rfl, fun h => by rw [h]; exact one_of rfl, [Sr [], Sr []], fun _ => ⟨⟨[], []⟩, rfl⟩⟩
section
variable {C : Cx} {Q : Exit → Act → World → Prop} {fr : List (Nat × Value)} {G : Mem} {L : List (List Seg)} {ops : Array Oper} {rest : List Oper} {o : Oper}
theorem splice_set {F : List Value} {j : Nat} {v : Value} (h : j < F.length) : splice F j [v] = F.set j v := by
  rw [List.set_eq_take_append_cons_drop, if_pos h]; unfold splice; simp
theorem splice_mid (A cs B D : List Value) {f : Nat} (v : Value) (hf : f < cs.length) : splice (A ++ (cs ++ B) ++ D) (A.length + f) [v] = A ++ (cs.set f v ++ B) ++ D := by
  rw [splice_set (by simp; omega), List.set_append, if_pos (by simp; omega), List.set_append, if_neg (by omega), show A.length + f - A.length = f by omega, List.set_append, if_pos hf]
theorem splice_whole (A cs B D cs2 : List Value) (hf : cs2.length = cs.length) : splice (A ++ (cs ++ B) ++ D) A.length cs2 = A ++ (cs2 ++ B) ++ D := by
  unfold splice
  simp only [List.append_assoc]
  rw [List.take_left, hf, ← List.drop_drop, List.drop_left, List.drop_left]
theorem runL_stRf {α : Type} {E : Elt α} {a : Option Addr} {cap : Nat} {l : List α} {r : List Seg} (i : Nat) (hr : TRow E G a cap l r) (k f : Nat) (x x' : α) {b off : Nat} (ha : a = At b off) (hx : l[k]? = some x) (v : Value) (hf : f < E.sz) (hty : ∀ cs, E.R G cs x → E.R G (cs.set f v) x')
    (h : ∀ r', TRow E G a cap (l.set k x') r' → RunL C ops Q rest fr G (L.set i r')) (hL : L[i]? = some r := by rfl)
    (hc : (chkSt C.P ops fr o ([v] : List Value).length, v.cells.toList, ([v] : List Value).all Value.oneCell') = (some (Pt b (off + (k * E.sz + f)), v), [v], true) := by as_aux_lemma => kernel_rfl) : RunL C ops Q (o :: rest) fr G L := by
  have hk := (List.getElem?_eq_some_iff.1 hx).1
  obtain ⟨b', off', css, spare, ha', rfl, c1, c2, csz, hsp, hle, hmax, _⟩ := hr.opened (by omega)
  rw [ha] at ha'; cases ha'
  subst ha
  obtain ⟨cs, p1, p2⟩ := c2 k x hx
  have hcl := csz cs (List.mem_of_getElem? p1)
  have hfl : css.flatten.length = l.length * E.sz := by rw [flatten_len csz, c1]
  have hkk : k * E.sz + E.sz ≤ l.length * E.sz := by
    have := Nat.mul_le_mul_right E.sz (show k + 1 ≤ l.length from hk)
    rw [Nat.add_mul, Nat.one_mul] at this; exact this
  have hc1 : k < css.length := by omega
  have hget : css[k]'hc1 = cs := by rw [List.getElem?_eq_getElem hc1] at p1; exact Option.some.inj p1
  have e1 : (css.set k (cs.set f v)).flatten = (css.take k).flatten ++ (cs.set f v ++ (css.drop (k + 1)).flatten) := by
    rw [List.set_eq_take_append_cons_drop, if_pos hc1]; simp
  have e2 : css.flatten = (css.take k).flatten ++ (cs ++ (css.drop (k + 1)).flatten) := by
    conv => lhs; rw [← List.take_append_drop k css]
    rw [List.drop_eq_getElem_cons hc1, hget]; simp
  have hT : (css.take k).flatten.length = k * E.sz := css_take_len csz (by omega)
  have hset : splice (css.flatten ++ spare) (k * E.sz + f) [v] = (css.set k (cs.set f v)).flatten ++ spare := by
    rw [e1, e2, ← hT]; exact splice_mid _ _ _ _ v (by omega)
  refine runL_stX i (k * E.sz + f) (b := b) (off := off) (cs := css.flatten ++ spare) v [v] (by rw [List.length_append, hfl]; simp only [List.length_cons, List.length_nil]; omega) ?_ hL hc
  rw [hset]
  have hcss : ∀ c ∈ css.set k (cs.set f v), c.length = E.sz := fun c hc => by
    rcases List.mem_or_eq_of_mem_set hc with hc | rfl
    · exact csz c hc
    · rw [List.length_set]; exact hcl
  refine h _ ⟨⟨css.set k (cs.set f v), by simp [c1], fun j y hy => ?_, ?_⟩, fun s hs => ?_⟩
  · rw [List.getElem?_set] at hy ⊢
    by_cases e : k = j
    · subst e
      rw [if_pos rfl, if_pos (by omega)]
      rw [if_pos rfl, if_pos hk] at hy
      exact ⟨_, rfl, by rw [← Option.some.inj hy]; exact hty cs p2⟩
    · rw [if_neg e] at hy ⊢
      exact c2 j y hy
  · refine ⟨?_, by rw [List.length_set]; exact hle, hmax, .inr ⟨b, off, spare, rfl, rfl, by rw [List.length_set]; exact hsp⟩⟩
    rw [flatten_len hcss, List.length_set, List.length_set, c1]
  · rw [List.mem_singleton.1 hs]
    obtain ⟨dss, d1, d2, d3⟩ := hr.sp _ (List.mem_singleton.2 rfl)
    simp only at d2 ⊢
    have hsz : Typed E G cap (css.flatten ++ spare) := ⟨dss, d1, d2, d3⟩
    have h4 := (hsz.splice (i := k) (Typed.one (hty cs p2)) (by omega))
    have e5 : splice (css.flatten ++ spare) (k * E.sz) (cs.set f v) = (css.set k (cs.set f v)).flatten ++ spare := by
      rw [e1, e2, ← hT]; exact splice_whole _ _ _ _ _ (by simp)
    rw [e5] at h4; exact h4
end
theorem books_mx {G : Mem} {a : Option Addr} {c : Nat} {l : List (List EntD)} (h : RS ESlEnt G a c l) : l.length ≤ 9223372036854775807 := Nat.le_trans h.le h.max
theorem QueueD_ne {x y : QueueD} : x = y ↔ x.most = y.most ∧ x.wait = y.wait := by cases x; cases y; simp
theorem ClerkD_ne {x y : ClerkD} : x = y ↔ x.queue = y.queue ∧ x.batch = y.batch ∧ x.every = y.every ∧ x.now = y.now ∧ x.heads = y.heads ∧ x.books = y.books := by cases x; cases y; simp
theorem ne_books {x y : ClerkD} (h : ¬ x.books = y.books) : ¬ x = y := fun e => h (by rw [e])
theorem same_clerk {x y : ClerkD} (h : x.queue = y.queue ∧ x.batch = y.batch ∧ x.every = y.every ∧ x.now = y.now ∧ x.heads = y.heads) (hb : x.books = y.books) : x = y := by
  rw [ClerkD_ne]; exact ⟨h.1, h.2.1, h.2.2.1, h.2.2.2.1, h.2.2.2.2, hb⟩
def SR (A G : Mem) (a : Option Addr) (n m : Nat) : Prop := (a = none → n = 0) ∧ ∀ ad, a = some ad → (0 < n → ad.spot = none) ∧ ∀ k, k < n → (∃ s : List UInt8, G ad.block (ad.off + k * 2 + 1) = some (Sr s) ∧ s.length ≤ m) ∧ A ad.block (ad.off + k * 2 + 1) = none
theorem SR.mono {A G G' : Mem} {a : Option Addr} {n m : Nat} (h : SR A G a n m) (hle : Mem.le G G') : SR A G' a n m :=
  ⟨h.1, fun ad ha => ⟨(h.2 ad ha).1, fun k hk => by obtain ⟨⟨s, h1, h2⟩, h3⟩ := (h.2 ad ha).2 k hk; exact ⟨⟨s, hle _ _ _ h1, h2⟩, h3⟩⟩⟩
theorem SR.wk {A G : Mem} {a : Option Addr} {n m m' : Nat} (h : SR A G a n m) (hm : m ≤ m') : SR A G a n m' :=
  ⟨h.1, fun ad ha => ⟨(h.2 ad ha).1, fun k hk => by obtain ⟨⟨s, h1, h2⟩, h3⟩ := (h.2 ad ha).2 k hk; exact ⟨⟨s, h1, Nat.le_trans h2 hm⟩, h3⟩⟩⟩
theorem SR.updI {A G : Mem} {jk : IntKind} {a : Option Addr} {n m b o : Nat} {y : Int} (h : SR A G a n m) (hc : G b o = some (.int jk y)) (z : Int) : SR A (Mem.upd G b o (.int jk z)) a n m :=
  ⟨h.1, fun ad ha => ⟨(h.2 ad ha).1, fun k hk => by
    obtain ⟨⟨s, h1, h2⟩, h3⟩ := (h.2 ad ha).2 k hk
    refine ⟨⟨s, ?_, h2⟩, h3⟩
    rw [upd_other]
    · exact h1
    · rintro ⟨e1, e2⟩; rw [e1, e2, hc] at h1; cases h1⟩⟩
theorem SR.updS {A G : Mem} {a : Option Addr} {n m m' b o : Nat} (h : SR A G a n m) {t : List UInt8} (ht : t.length ≤ m') (hm : m ≤ m') : SR A (Mem.upd G b o (Sr t)) a n m' :=
  ⟨h.1, fun ad ha => ⟨(h.2 ad ha).1, fun k hk => by
    obtain ⟨⟨s, h1, h2⟩, h3⟩ := (h.2 ad ha).2 k hk
    refine ⟨?_, h3⟩
    by_cases e : ad.block = b ∧ ad.off + k * 2 + 1 = o
    · rw [e.1, e.2]; exact ⟨t, upd_same _ _ _ _, ht⟩
    · exact ⟨s, by rw [upd_other e]; exact h1, Nat.le_trans h2 hm⟩⟩⟩
theorem SR.addr {A G : Mem} {a : Option Addr} {n m k : Nat} (h : SR A G a n m) (hk : k < n) : ∃ b o, a = At b o ∧ (∃ s : List UInt8, G b (o + k * 2 + 1) = some (Sr s) ∧ s.length ≤ m) ∧ A b (o + k * 2 + 1) = none := by
  cases a with
  | none => have := h.1 rfl; omega
  | some ad =>
    obtain ⟨b, o, s⟩ := ad
    have hs := (h.2 _ rfl).1 (by omega)
    simp only at hs; subst hs
    exact ⟨b, o, rfl, (h.2 _ rfl).2 k hk⟩
theorem IR.updS {A G : Mem} {ik : IntKind} {a : Option Addr} {n sz f b o : Nat} {s : List UInt8} (h : IR A G ik a n sz f) (hc : G b o = some (Sr s)) (t : List UInt8) : IR A (Mem.upd G b o (Sr t)) ik a n sz f :=
  ⟨h.1, fun ad ha => ⟨(h.2 ad ha).1, fun k hk => by
    obtain ⟨⟨y, hy⟩, h2⟩ := (h.2 ad ha).2 k hk
    refine ⟨⟨y, ?_⟩, h2⟩
    rw [upd_other]
    · exact hy
    · rintro ⟨e1, e2⟩; rw [e1, e2, hc] at hy; cases hy⟩⟩
theorem IR.cell {A G : Mem} {ik : IntKind} {a : Option Addr} {n sz f k : Nat} (h : IR A G ik a n sz f) (hk : k < n) : ∃ b o, a = At b o ∧ (∃ y, G b (o + k * sz + f) = some (.int ik y)) ∧ A b (o + k * sz + f) = none := by
  obtain ⟨b, o, rfl⟩ := h.addr hk
  exact ⟨b, o, rfl, (h.2 _ rfl).2 k hk⟩
structure CA where
  aq : Option Addr
  nq : Nat
  ah : Option Addr
  nh : Nat
  ab : Option Addr
  nb : Nat
structure COk (A G : Mem) (p : CA) (m : Nat) : Prop where
  q : IR A G .u64 p.aq p.nq 4 2
  h : IR A G .i64 p.ah p.nh 4 3
  bn : p.ab = none → p.nb = 0
  bk : p.nb ≤ 1000
  b : ∀ ad, p.ab = some ad → (0 < p.nb → ad.spot = none) ∧ ∀ k, k < p.nb → ∃ a n c, G ad.block (ad.off + k * 1) = some (Sl a n c) ∧ SR A G a n m ∧ n ≤ 1000
theorem COk.mono {A G G' : Mem} {p : CA} {m : Nat} (h : COk A G p m) (hle : Mem.le G G') : COk A G' p m :=
  ⟨h.q.mono hle, h.h.mono hle, h.bn, h.bk, fun ad ha => ⟨(h.b ad ha).1, fun k hk => by obtain ⟨a, n, c, h1, h2, h3⟩ := (h.b ad ha).2 k hk; exact ⟨a, n, c, hle _ _ _ h1, h2.mono hle, h3⟩⟩⟩
theorem COk.wk {A G : Mem} {p : CA} {m m' : Nat} (h : COk A G p m) (hm : m ≤ m') : COk A G p m' :=
  ⟨h.q, h.h, h.bn, h.bk, fun ad ha => ⟨(h.b ad ha).1, fun k hk => by obtain ⟨a, n, c, h1, h2, h3⟩ := (h.b ad ha).2 k hk; exact ⟨a, n, c, h1, h2.wk hm, h3⟩⟩⟩
theorem COk.updI {A G : Mem} {p : CA} {m b o : Nat} {jk : IntKind} {y : Int} (h : COk A G p m) (hc : G b o = some (.int jk y)) (z : Int) : COk A (Mem.upd G b o (.int jk z)) p m :=
  ⟨h.q.upd hc z, h.h.upd hc z, h.bn, h.bk, fun ad ha => ⟨(h.b ad ha).1, fun k hk => by
    obtain ⟨a, n, c, h1, h2, h3⟩ := (h.b ad ha).2 k hk
    refine ⟨a, n, c, ?_, h2.updI hc z, h3⟩
    rw [upd_other]
    · exact h1
    · rintro ⟨e1, e2⟩; rw [e1, e2, hc] at h1; cases h1⟩⟩
theorem COk.updS {A G : Mem} {p : CA} {m m' b o : Nat} {s t : List UInt8} (h : COk A G p m) (hc : G b o = some (Sr s)) (ht : t.length ≤ m') (hm : m ≤ m') : COk A (Mem.upd G b o (Sr t)) p m' :=
  ⟨h.q.updS hc t, h.h.updS hc t, h.bn, h.bk, fun ad ha => ⟨(h.b ad ha).1, fun k hk => by
    obtain ⟨a, n, c, h1, h2, h3⟩ := (h.b ad ha).2 k hk
    refine ⟨a, n, c, ?_, h2.updS ht hm, h3⟩
    rw [upd_other]
    · exact h1
    · rintro ⟨e1, e2⟩; rw [e1, e2, hc] at h1; cases h1⟩⟩
theorem COk.book {A G : Mem} {p : CA} {m k : Nat} (h : COk A G p m) (hk : k < p.nb) : ∃ b o, p.ab = At b o ∧ ∃ a n c, G b (o + k * 1) = some (Sl a n c) ∧ SR A G a n m ∧ n ≤ 1000 := by
  cases e : p.ab with
  | none => have := h.bn e; omega
  | some ad =>
    obtain ⟨b, o, s⟩ := ad
    have hs := (h.b _ e).1 (by omega)
    simp only at hs; subst hs
    exact ⟨b, o, rfl, (h.b _ e).2 k hk⟩
def C2 (A G : Mem) (p q : CA) (m : Nat) : Prop := COk A G p m ∧ COk A G q m
theorem C2.wk {A G : Mem} {p q : CA} {m m' : Nat} (h : C2 A G p q m) (hm : m ≤ m') : C2 A G p q m' := ⟨h.1.wk hm, h.2.wk hm⟩
theorem C2.updI {A G : Mem} {p q : CA} {m b o : Nat} {jk : IntKind} {y : Int} (h : C2 A G p q m) (hc : G b o = some (.int jk y)) (z : Int) : C2 A (Mem.upd G b o (.int jk z)) p q m := ⟨h.1.updI hc z, h.2.updI hc z⟩
theorem C2.updS {A G : Mem} {p q : CA} {m m' b o : Nat} {s t : List UInt8} (h : C2 A G p q m) (hc : G b o = some (Sr s)) (ht : t.length ≤ m') (hm : m ≤ m') : C2 A (Mem.upd G b o (Sr t)) p q m' := ⟨h.1.updS hc ht hm, h.2.updS hc ht hm⟩
theorem ir_ask {A G : Mem} {a : Option Addr} {c : Nat} {l : List AskD} (h : RS EAsk G a c l) (ho : Nw A a (l.length * EAsk.sz)) : IR A G .u64 a l.length 4 2 := by
  refine ⟨fun e => ?_, fun ad ha => ⟨fun hn => h.spot ad ha (by have := h.le; omega), fun k hk => ⟨?_, ?_⟩⟩⟩
  · have := h.nil e; have := h.le; omega
  · obtain ⟨cs, h1, h2⟩ := h.elem ad ha k _ (List.getElem?_eq_getElem hk)
    obtain ⟨rfl, _⟩ := h1
    exact ⟨_, h2 2 _ rfl⟩
  · have := ho ad ha (k * 4 + 2) (by simp only [EAsk]; omega)
    rwa [← Nat.add_assoc] at this
theorem sr_ent {A G : Mem} {a : Option Addr} {c : Nat} {l : List EntD} (h : RS EEnt G a c l) (ho : Nw A a (l.length * 2)) : SR A G a l.length 140737488351232 := by
  refine ⟨fun e => ?_, fun ad ha => ⟨fun hn => h.spot ad ha (by have := h.le; omega), fun k hk => ⟨?_, ?_⟩⟩⟩
  · have := h.nil e; have := h.le; omega
  · obtain ⟨cs, h1, h2⟩ := h.elem ad ha k _ (List.getElem?_eq_getElem hk)
    obtain ⟨rfl, _, h3⟩ := h1
    exact ⟨_, h2 1 _ rfl, h3⟩
  · have := ho ad ha (k * 2 + 1) (by omega)
    rwa [← Nat.add_assoc] at this
theorem COk.of {A G : Mem} {x : ClerkD} {aq ah ab : Option Addr} {cq ch cb : Nat} (h1 : RS EAsk G aq cq x.queue.wait) (h2 : Nw A aq (x.queue.wait.length * EAsk.sz)) (h3 : RS EHead G ah ch x.heads) (h4 : Nw A ah (x.heads.length * EHead.sz)) (h5 : RS (EBookN A) G ab cb x.books) (h6 : x.books.length ≤ 1000 ∧ ∀ b ∈ x.books, b.length ≤ 1000) :
    COk A G ⟨aq, x.queue.wait.length, ah, x.heads.length, ab, x.books.length⟩ 140737488351232 := by
  refine ⟨ir_ask h1 h2, ir_head h3 h4, fun e => ?_, h6.1, fun ad ha => ⟨fun hn => h5.spot ad ha (by have := h5.le; simp only at hn; omega), fun k hk => ?_⟩⟩
  · have := h5.nil e; have := h5.le; simp only; omega
  · simp only at hk ha
    obtain ⟨cs, ⟨a, c, rfl, q1, q2⟩, q3⟩ := h5.elem ad ha k _ (List.getElem?_eq_getElem hk)
    exact ⟨a, _, c, q3 0 _ rfl, sr_ent q1 q2, h6.2 _ (List.getElem_mem hk)⟩
theorem ok_bk {x : ClerkD} (h : ClerkOk x) : x.books.length ≤ 1000 ∧ ∀ b ∈ x.books, b.length ≤ 1000 := by
  refine ⟨by have := h.len; have := h.chain.len; omega, fun b hb => ?_⟩
  obtain ⟨k, hk⟩ := List.getElem?_of_mem hb
  have := (treeAtE_ok (h.root k b hk).1).1.len
  omega
theorem z_bk : clerkZ.books.length ≤ 1000 ∧ ∀ b ∈ clerkZ.books, b.length ≤ 1000 := by
  have : clerkZ.books = [] := rfl
  rw [this]; simp
theorem ask_bk (c : ClerkD) (a : AskD) : (clerkAsk c a).1.books.length ≤ 1000 ∧ ∀ b ∈ (clerkAsk c a).1.books, b.length ≤ 1000 := by
  by_cases h : (clerkAsk c a).2.2 = 0
  · exact ok_bk (clerkAsk_right h)
  · rw [(clerkAsk_err h).1]; exact z_bk
theorem tick_bk (c : ClerkD) : (clerkTick c).1.books.length ≤ 1000 ∧ ∀ b ∈ (clerkTick c).1.books, b.length ≤ 1000 := by
  by_cases h : clerkCheck c = 0
  · exact ok_bk (clerkTick_ok (clerkCheck_iff.1 h)).2.ok
  · have : (clerkTick c).1 = clerkZ := by unfold clerkTick; rw [if_pos h]
    rw [this]; exact z_bk
theorem TRow.weakB {G G2 : Mem} {a : Option Addr} {c : Nat} {l : List EntD} {r : List Seg} (h : TRow EEnt G a c l r) : TRow EEntB G2 a c l r ∧ ∀ x ∈ l, x.value.length ≤ 140737488351232 := by
  obtain ⟨css, h1, h2, h3⟩ := h.ex
  refine ⟨⟨⟨css, h1, fun i x hx => by obtain ⟨cs, p, q⟩ := h2 i x hx; exact ⟨cs, p, q.1⟩, h3⟩, fun s hs => by obtain ⟨d, p1, p2, p3⟩ := h.sp s hs; exact ⟨d, p1, p2, fun cs hc => by obtain ⟨x, hx⟩ := p3 cs hc; exact ⟨x, hx.1⟩⟩⟩, fun x hx => ?_⟩
  obtain ⟨i, hi⟩ := List.getElem?_of_mem hx
  obtain ⟨cs, _, q⟩ := h2 i x hi
  exact q.2.2
theorem queuePutN_con (G : Mem) (vs_q : List Value) (q : QueueD) (h_q : EQueue.R G vs_q q) (vs_a : List Value) (a : AskD) (h_a : EAsk.R G vs_a a)  : ConP 22 #[.agg vs_q.toArray, .agg vs_a.toArray] G [] (fun u G' L' => ∃ (a1 : Option Addr) (c2 : Nat), u = .tuple #[.agg #[I (((queuePut q a).1).most), Sl a1 ((((queuePut q a).1).wait).length) c2], I ((queuePut q a).2.1), I ((queuePut q a).2.2)] ∧ (-9223372036854775808 ≤ (((queuePut q a).1).most) ∧ (((queuePut q a).1).most) < 9223372036854775808) ∧ (RS EAsk G' a1 c2 (((queuePut q a).1).wait) ∧ Nw G a1 ((((queuePut q a).1).wait).length * EAsk.sz)) ∧ L' = []) := by
 obtain ⟨a1, c1, rfl, w1, hs1⟩ := h_q
 obtain ⟨rfl, w2, w3, w4, w5⟩ := h_a
 refine con_of Tryz.func22 42 [(0, .agg #[I q.most, Sl a1 q.wait.length c1]), (1, .agg #[Sr a.name, Sr a.value, U a.n, U a.tag])] rfl (fun w0 G0 => ?_)
 refine tc_seq (tc_region ?_)
 refine runL_box 2 #[I q.most, Sl a1 q.wait.length c1] 41 (fun b1 => ?_)
 refine runL_box 3 #[Sr a.name, Sr a.value, U a.n, U a.tag] 47 (fun b2 => ?_)
 refine runL_box 4 #[I 0, Sl none 0 0] 41 (fun b3 => ?_)
 refine runL_bn [0,0] [] (runL_nil (tq_then (tc_seq (tc_region ?_))))
 refine runL_bn [6] [(9, .agg #[I q.most, Sl a1 q.wait.length c1])] ?_
 refine runL_callV 10 (I (queueCheck q)) (queueCheck_con G [I q.most, Sl a1 q.wait.length c1] q (⟨a1, c1, rfl, w1, hs1⟩)) ?_
 refine runL_bn [0] [(7, I (queueCheck q))] (runL_nil (tq_then (tc_seq ?_)))
 refine tc_rbn [0,0] [(12, Bo (decide (queueCheck q = 0)))] ?_
 refine tc_condP (decide (queueCheck q = 0)) (fun h1 => ?_) (fun h1 => ?_)
 ·
  refine tc_region ?_
  refine runL_bn [4] [(13, .agg #[Sr a.name, Sr a.value, U a.n, U a.tag])] ?_
  refine runL_callV 14 (I (queueRight a)) (queueRight_con G [Sr a.name, Sr a.value, U a.n, U a.tag] a (⟨rfl, w2, w3, w4, w5⟩)) ?_
  refine runL_bn [0] [(7, I (queueRight a))] (runL_nil (tq_then (tc_seq (tc_seq (tc_region ?_)))))
  refine runL_bn [0,0,0] [(17, Bo (decide (queueRight a = 0)))] ?_
  refine runL_b2n (decide (queueRight a = 0)) [17] [0,6,0,0,6,0,0] [1,1,1,1,1,1,0] (fun bb => [(24, Bo (bb && (decide ((q.wait.length : Int) = q.most))))]) ?_
  refine runL_nil (tq_then ?_)
  refine tc_condP ((decide (queueRight a = 0)) && (decide ((q.wait.length : Int) = q.most))) (fun h2 => ?_) (fun h2 => ?_)
  ·
   refine tc_region ?_
   refine runL_bn [0] [(7, I 7)] (runL_nil (tq_then (tc_seq ?_)))
   refine tc_rbn [0,0] [(26, Bo true)] ?_
   refine tc_cond_true ?_
   refine tc_rbn [0,0,3,0,0] [(5, I 0), (6, I 7)] (tc_ret (tq_then_ret ?_))
   have hf1 : queuePut q a = ((⟨0, []⟩ : QueueD), 0, 7) := by
    unfold queuePut queuePutE queueZ; simp_all; try omega
   refine tq_ret [0, 0, 0] [.agg #[I 0, Sl none 0 0], I 0, I 7] (bp_rowsA [] (Mem.le_refl _) ?_)
   rw [hf1]
   try dsimp only
   exact ⟨none, 0, rfl, (by first | assumption | omega | (simp; done) | (simp; omega)), ⟨(RS.nil' EAsk G), (Nw.none _ _)⟩, rfl⟩
  ·
   refine tc_skip (tq_then (tc_seq ?_))
   refine tc_rbn [0,0] [(26, Bo (!decide (queueRight a = 0)))] ?_
   refine tc_condP (!decide (queueRight a = 0)) (fun h3 => ?_) (fun h3 => ?_)
   ·
    refine tc_rbn [0,0,3,0,0] [(5, I 0), (6, I (queueRight a))] (tc_ret (tq_then_ret ?_))
    have hf2 : queuePut q a = ((⟨0, []⟩ : QueueD), 0, queueRight a) := by
     unfold queuePut queuePutE queueZ; simp_all; try omega
    refine tq_ret [0, 0, 0] [.agg #[I 0, Sl none 0 0], I 0, I (queueRight a)] (bp_rowsA [] (Mem.le_refl _) ?_)
    rw [hf2]
    try dsimp only
    exact ⟨none, 0, rfl, (by first | assumption | omega | (simp; done) | (simp; omega)), ⟨(RS.nil' EAsk G), (Nw.none _ _)⟩, rfl⟩
   ·
    refine tc_skip (tq_then ?_)
    refine tc_rbn [0,6,0,0] [(8, I (q.wait.length : Int))] (tc_seq ?_)
    refine tc_draw [4, 6, 7, 10] ?_
    refine dr_V [(0, Pt b1 0), (1, I q.most), (2, Pt b1 1), (3, Sl a1 q.wait.length c1), (5, .agg #[Sr a.name, Sr a.value, U a.n, U a.tag]), (9, I (q.wait.length : Int))] ?_
    refine dr_mid [] [(0,0), (1,6), (2,0), (3,6), (5,4), (9,0)] [] [4, 6] (List.forall_mem_nil _) (fmc ?_ (fmc ?_ fm0))
    ·
     refine act_of 4 [(35, Sl a1 q.wait.length c1)] (fun X => ?_)
     refine runL_callR 36 (sclone_EAsk G a1 c1 q.wait hs1) (fun v G1 L1 hl1 hp => ?_)
     obtain ⟨a2, c2, r1, rfl, hr1, rfl⟩ := hp
     refine act_endN [(4, Sl a2 q.wait.length c2)] ?_
     refine dr_mid [2, 3] [(0,0), (1,8), (5,6), (9,0)] [] [6] (List.forall_mem_nil _) (fmc ?_ fm0)
     refine act_of 6 [(37, .agg #[Sr a.name, Sr a.value, U a.n, U a.tag])] (fun X => ?_)
     refine runL_bsl 38 1 #[Sr a.name, Sr a.value, U a.n, U a.tag] 47 (fun b4 => ?_)
     refine act_endN [(6, Sl (At b4 0) 1 1)] ?_
     refine dr_mid [2, 3, 5] [(0,0), (1,10), (9,0)] [] [7] (List.forall_mem_nil _) (fmc ?_ fm0)
     refine act_of 7 [(36, Sl a2 q.wait.length c2), (38, Sl (At b4 0) 1 1)] (fun X => ?_)
     refine runL_app1' (b := b4) (cs := [Sr a.name, Sr a.value, U a.n, U a.tag]) 39 47 1 0 (E := EAsk) a hr1 ⟨rfl, w2, w3, w4, w5⟩ (by have hq_ := queueCheck_iff.1 (by assumption); (try simp only [EAsk, List.length_append, List.length_cons, List.length_nil]); omega) (by have hq_ := queueCheck_iff.1 (by assumption); (try simp only [EAsk, List.length_append, List.length_cons, List.length_nil]); omega) (fun a3 c3 r2 hr2 => ?_)
     refine act_endN [(7, Sl a3 ((q.wait ++ [a]).length) c3), (8, .agg #[I q.most, Sl a3 ((q.wait ++ [a]).length) c3])] ?_
     refine dr_mid [2, 3, 5] [(0,0), (1,10), (8,0), (9,0)] [] [10] (List.forall_mem_nil _) (fmc ?_ fm0)
     refine act_of 10 [(4, Pt b3 0), (40, .agg #[I q.most, Sl a3 ((q.wait ++ [a]).length) c3])] (fun X => ?_)
     refine runL_st 2 [[Sg b4 0 [Sr a.name, Sr a.value, U a.n, U a.tag]], r2, [Sg b3 0 [I q.most, Sl a3 ((q.wait ++ [a]).length) c3]], [Sg b2 0 [Sr a.name, Sr a.value, U a.n, U a.tag]], [Sg b1 0 [I q.most, Sl a1 q.wait.length c1]]] ?_
     refine act_endN0 [(11, I (q.wait.length : Int)), (12, I 0)] ?_
     refine dr_end [0, 1, 2, 3, 5, 8] [(9,0), (11,0), (12,0)] [] [(4, Pt b3 0), (5, I (q.wait.length : Int)), (6, I 0)] (List.forall_mem_nil _) ?_
     refine tq_then (tc_ret ?_)
     refine tq_know (fun w_ h_ => TRow.out hr2 h_ (i := 1) rfl) (fun ho1 => ?_)
     refine tq_frzR (E := EAsk) 1 hr2 (by have hq_ := queueCheck_iff.1 (by assumption); (try simp only [EAsk, List.length_append, List.length_cons, List.length_nil]); omega) (fun G2 hl2 hs2 => ?_)
     have hf3 : queuePut q a = ((⟨q.most, q.wait ++ [a]⟩ : QueueD), (q.wait.length : Int), 0) := by
      unfold queuePut queuePutE queueZ; simp_all; try omega
     refine tq_ret [2, 0, 0] [.agg #[I q.most, Sl a3 ((q.wait ++ [a]).length) c3], I (q.wait.length : Int), I 0] (bp_rowsA [] (Mem.le_trans hl1 hl2) ?_)
     rw [hf3]
     try dsimp only
     exact ⟨a3, c3, rfl, w1, ⟨hs2, (Nw.base ho1 hl1)⟩, rfl⟩
    refine act_of 6 [(37, .agg #[Sr a.name, Sr a.value, U a.n, U a.tag])] (fun X => ?_)
    refine runL_bsl 38 1 #[Sr a.name, Sr a.value, U a.n, U a.tag] 47 (fun b5 => ?_)
    refine act_endN [(6, Sl (At b5 0) 1 1)] ?_
    refine dr_mid [5] [(0,0), (1,8), (2,0), (3,8), (9,0)] [] [4] (List.forall_mem_nil _) (fmc ?_ fm0)
    refine act_of 4 [(35, Sl a1 q.wait.length c1)] (fun X => ?_)
    refine runL_callR 36 (sclone_EAsk G a1 c1 q.wait hs1) (fun v G3 L1 hl3 hp => ?_)
    obtain ⟨a4, c4, r3, rfl, hr3, rfl⟩ := hp
    refine act_endN [(4, Sl a4 q.wait.length c4)] ?_
    refine dr_mid [2, 3, 5] [(0,0), (1,10), (9,0)] [] [7] (List.forall_mem_nil _) (fmc ?_ fm0)
    refine act_of 7 [(36, Sl a4 q.wait.length c4), (38, Sl (At b5 0) 1 1)] (fun X => ?_)
    refine runL_app1' (b := b5) (cs := [Sr a.name, Sr a.value, U a.n, U a.tag]) 39 47 0 1 (E := EAsk) a hr3 ⟨rfl, w2, w3, w4, w5⟩ (by have hq_ := queueCheck_iff.1 (by assumption); (try simp only [EAsk, List.length_append, List.length_cons, List.length_nil]); omega) (by have hq_ := queueCheck_iff.1 (by assumption); (try simp only [EAsk, List.length_append, List.length_cons, List.length_nil]); omega) (fun a5 c5 r4 hr4 => ?_)
    refine act_endN [(7, Sl a5 ((q.wait ++ [a]).length) c5), (8, .agg #[I q.most, Sl a5 ((q.wait ++ [a]).length) c5])] ?_
    refine dr_mid [2, 3, 5] [(0,0), (1,10), (8,0), (9,0)] [] [10] (List.forall_mem_nil _) (fmc ?_ fm0)
    refine act_of 10 [(4, Pt b3 0), (40, .agg #[I q.most, Sl a5 ((q.wait ++ [a]).length) c5])] (fun X => ?_)
    refine runL_st 2 [r4, [Sg b5 0 [Sr a.name, Sr a.value, U a.n, U a.tag]], [Sg b3 0 [I q.most, Sl a5 ((q.wait ++ [a]).length) c5]], [Sg b2 0 [Sr a.name, Sr a.value, U a.n, U a.tag]], [Sg b1 0 [I q.most, Sl a1 q.wait.length c1]]] ?_
    refine act_endN0 [(11, I (q.wait.length : Int)), (12, I 0)] ?_
    refine dr_end [0, 1, 2, 3, 5, 8] [(9,0), (11,0), (12,0)] [] [(4, Pt b3 0), (5, I (q.wait.length : Int)), (6, I 0)] (List.forall_mem_nil _) ?_
    refine tq_then (tc_ret ?_)
    refine tq_know (fun w_ h_ => TRow.out hr4 h_ (i := 0) rfl) (fun ho2 => ?_)
    refine tq_frzR (E := EAsk) 0 hr4 (by have hq_ := queueCheck_iff.1 (by assumption); (try simp only [EAsk, List.length_append, List.length_cons, List.length_nil]); omega) (fun G4 hl4 hs3 => ?_)
    have hf4 : queuePut q a = ((⟨q.most, q.wait ++ [a]⟩ : QueueD), (q.wait.length : Int), 0) := by
     unfold queuePut queuePutE queueZ; simp_all; try omega
    refine tq_ret [2, 0, 0] [.agg #[I q.most, Sl a5 ((q.wait ++ [a]).length) c5], I (q.wait.length : Int), I 0] (bp_rowsA [] (Mem.le_trans hl3 hl4) ?_)
    rw [hf4]
    try dsimp only
    exact ⟨a5, c5, rfl, w1, ⟨hs3, (Nw.base ho2 hl3)⟩, rfl⟩
 ·
  refine tc_skip (tq_then (tc_seq (tc_seq (tc_region ?_))))
  refine runL_bn [0,0,0] [(17, Bo (decide (queueCheck q = 0)))] ?_
  refine runL_b2n (decide (queueCheck q = 0)) [17] [0,6,0,0,6,0,0] [1,1,1,1,1,1,0] (fun bb => [(24, Bo (bb && (decide ((q.wait.length : Int) = q.most))))]) ?_
  refine runL_nil (tq_then ?_)
  refine tc_condP ((decide (queueCheck q = 0)) && (decide ((q.wait.length : Int) = q.most))) (fun h4 => ?_) (fun h4 => ?_)
  ·
   refine tc_region ?_
   refine runL_bn [0] [(7, I 7)] (runL_nil (tq_then (tc_seq ?_)))
   refine tc_rbn [0,0] [(26, Bo true)] ?_
   refine tc_cond_true ?_
   refine tc_rbn [0,0,3,0,0] [(5, I 0), (6, I 7)] (tc_ret (tq_then_ret ?_))
   have hf5 : queuePut q a = ((⟨0, []⟩ : QueueD), 0, 7) := by
    unfold queuePut queuePutE queueZ; simp_all; try omega
   refine tq_ret [0, 0, 0] [.agg #[I 0, Sl none 0 0], I 0, I 7] (bp_rowsA [] (Mem.le_refl _) ?_)
   rw [hf5]
   try dsimp only
   exact ⟨none, 0, rfl, (by first | assumption | omega | (simp; done) | (simp; omega)), ⟨(RS.nil' EAsk G), (Nw.none _ _)⟩, rfl⟩
  ·
   refine tc_skip (tq_then (tc_seq ?_))
   refine tc_rbn [0,0] [(26, Bo (!decide (queueCheck q = 0)))] ?_
   refine tc_condP (!decide (queueCheck q = 0)) (fun h5 => ?_) (fun h5 => ?_)
   ·
    refine tc_rbn [0,0,3,0,0] [(5, I 0), (6, I (queueCheck q))] (tc_ret (tq_then_ret ?_))
    have hf6 : queuePut q a = ((⟨0, []⟩ : QueueD), 0, queueCheck q) := by
     unfold queuePut queuePutE queueZ; simp_all; try omega
    refine tq_ret [0, 0, 0] [.agg #[I 0, Sl none 0 0], I 0, I (queueCheck q)] (bp_rowsA [] (Mem.le_refl _) ?_)
    rw [hf6]
    try dsimp only
    exact ⟨none, 0, rfl, (by first | assumption | omega | (simp; done) | (simp; omega)), ⟨(RS.nil' EAsk G), (Nw.none _ _)⟩, rfl⟩
   ·
    refine tc_skip (tq_then ?_)
    refine tc_rbn [0,6,0,0] [(8, I (q.wait.length : Int))] (tc_seq ?_)
    refine tc_draw [4, 6, 7, 10] ?_
    refine dr_V [(0, Pt b1 0), (1, I q.most), (2, Pt b1 1), (3, Sl a1 q.wait.length c1), (5, .agg #[Sr a.name, Sr a.value, U a.n, U a.tag]), (9, I (q.wait.length : Int))] ?_
    refine dr_mid [] [(0,0), (1,6), (2,0), (3,6), (5,4), (9,0)] [] [4, 6] (List.forall_mem_nil _) (fmc ?_ (fmc ?_ fm0))
    ·
     refine act_of 4 [(35, Sl a1 q.wait.length c1)] (fun X => ?_)
     refine runL_callR 36 (sclone_EAsk G a1 c1 q.wait hs1) (fun v G5 L1 hl5 hp => ?_)
     obtain ⟨a6, c6, r5, rfl, hr5, rfl⟩ := hp
     refine act_endN [(4, Sl a6 q.wait.length c6)] ?_
     refine dr_mid [2, 3] [(0,0), (1,8), (5,6), (9,0)] [] [6] (List.forall_mem_nil _) (fmc ?_ fm0)
     refine act_of 6 [(37, .agg #[Sr a.name, Sr a.value, U a.n, U a.tag])] (fun X => ?_)
     refine runL_bsl 38 1 #[Sr a.name, Sr a.value, U a.n, U a.tag] 47 (fun b6 => ?_)
     refine act_endN [(6, Sl (At b6 0) 1 1)] ?_
     refine dr_mid [2, 3, 5] [(0,0), (1,10), (9,0)] [] [7] (List.forall_mem_nil _) (fmc ?_ fm0)
     refine act_of 7 [(36, Sl a6 q.wait.length c6), (38, Sl (At b6 0) 1 1)] (fun X => ?_)
     refine runL_app1' (b := b6) (cs := [Sr a.name, Sr a.value, U a.n, U a.tag]) 39 47 1 0 (E := EAsk) a hr5 ⟨rfl, w2, w3, w4, w5⟩ (by have hq_ := queueCheck_iff.1 (by assumption); (try simp only [EAsk, List.length_append, List.length_cons, List.length_nil]); omega) (by have hq_ := queueCheck_iff.1 (by assumption); (try simp only [EAsk, List.length_append, List.length_cons, List.length_nil]); omega) (fun a7 c7 r6 hr6 => ?_)
     refine act_endN [(7, Sl a7 ((q.wait ++ [a]).length) c7), (8, .agg #[I q.most, Sl a7 ((q.wait ++ [a]).length) c7])] ?_
     refine dr_mid [2, 3, 5] [(0,0), (1,10), (8,0), (9,0)] [] [10] (List.forall_mem_nil _) (fmc ?_ fm0)
     refine act_of 10 [(4, Pt b3 0), (40, .agg #[I q.most, Sl a7 ((q.wait ++ [a]).length) c7])] (fun X => ?_)
     refine runL_st 2 [[Sg b6 0 [Sr a.name, Sr a.value, U a.n, U a.tag]], r6, [Sg b3 0 [I q.most, Sl a7 ((q.wait ++ [a]).length) c7]], [Sg b2 0 [Sr a.name, Sr a.value, U a.n, U a.tag]], [Sg b1 0 [I q.most, Sl a1 q.wait.length c1]]] ?_
     refine act_endN0 [(11, I (q.wait.length : Int)), (12, I 0)] ?_
     refine dr_end [0, 1, 2, 3, 5, 8] [(9,0), (11,0), (12,0)] [] [(4, Pt b3 0), (5, I (q.wait.length : Int)), (6, I 0)] (List.forall_mem_nil _) ?_
     refine tq_then (tc_ret ?_)
     refine tq_know (fun w_ h_ => TRow.out hr6 h_ (i := 1) rfl) (fun ho3 => ?_)
     refine tq_frzR (E := EAsk) 1 hr6 (by have hq_ := queueCheck_iff.1 (by assumption); (try simp only [EAsk, List.length_append, List.length_cons, List.length_nil]); omega) (fun G6 hl6 hs4 => ?_)
     have hf7 : queuePut q a = ((⟨q.most, q.wait ++ [a]⟩ : QueueD), (q.wait.length : Int), 0) := by
      unfold queuePut queuePutE queueZ; simp_all; try omega
     refine tq_ret [2, 0, 0] [.agg #[I q.most, Sl a7 ((q.wait ++ [a]).length) c7], I (q.wait.length : Int), I 0] (bp_rowsA [] (Mem.le_trans hl5 hl6) ?_)
     rw [hf7]
     try dsimp only
     exact ⟨a7, c7, rfl, w1, ⟨hs4, (Nw.base ho3 hl5)⟩, rfl⟩
    refine act_of 6 [(37, .agg #[Sr a.name, Sr a.value, U a.n, U a.tag])] (fun X => ?_)
    refine runL_bsl 38 1 #[Sr a.name, Sr a.value, U a.n, U a.tag] 47 (fun b7 => ?_)
    refine act_endN [(6, Sl (At b7 0) 1 1)] ?_
    refine dr_mid [5] [(0,0), (1,8), (2,0), (3,8), (9,0)] [] [4] (List.forall_mem_nil _) (fmc ?_ fm0)
    refine act_of 4 [(35, Sl a1 q.wait.length c1)] (fun X => ?_)
    refine runL_callR 36 (sclone_EAsk G a1 c1 q.wait hs1) (fun v G7 L1 hl7 hp => ?_)
    obtain ⟨a8, c8, r7, rfl, hr7, rfl⟩ := hp
    refine act_endN [(4, Sl a8 q.wait.length c8)] ?_
    refine dr_mid [2, 3, 5] [(0,0), (1,10), (9,0)] [] [7] (List.forall_mem_nil _) (fmc ?_ fm0)
    refine act_of 7 [(36, Sl a8 q.wait.length c8), (38, Sl (At b7 0) 1 1)] (fun X => ?_)
    refine runL_app1' (b := b7) (cs := [Sr a.name, Sr a.value, U a.n, U a.tag]) 39 47 0 1 (E := EAsk) a hr7 ⟨rfl, w2, w3, w4, w5⟩ (by have hq_ := queueCheck_iff.1 (by assumption); (try simp only [EAsk, List.length_append, List.length_cons, List.length_nil]); omega) (by have hq_ := queueCheck_iff.1 (by assumption); (try simp only [EAsk, List.length_append, List.length_cons, List.length_nil]); omega) (fun a9 c9 r8 hr8 => ?_)
    refine act_endN [(7, Sl a9 ((q.wait ++ [a]).length) c9), (8, .agg #[I q.most, Sl a9 ((q.wait ++ [a]).length) c9])] ?_
    refine dr_mid [2, 3, 5] [(0,0), (1,10), (8,0), (9,0)] [] [10] (List.forall_mem_nil _) (fmc ?_ fm0)
    refine act_of 10 [(4, Pt b3 0), (40, .agg #[I q.most, Sl a9 ((q.wait ++ [a]).length) c9])] (fun X => ?_)
    refine runL_st 2 [r8, [Sg b7 0 [Sr a.name, Sr a.value, U a.n, U a.tag]], [Sg b3 0 [I q.most, Sl a9 ((q.wait ++ [a]).length) c9]], [Sg b2 0 [Sr a.name, Sr a.value, U a.n, U a.tag]], [Sg b1 0 [I q.most, Sl a1 q.wait.length c1]]] ?_
    refine act_endN0 [(11, I (q.wait.length : Int)), (12, I 0)] ?_
    refine dr_end [0, 1, 2, 3, 5, 8] [(9,0), (11,0), (12,0)] [] [(4, Pt b3 0), (5, I (q.wait.length : Int)), (6, I 0)] (List.forall_mem_nil _) ?_
    refine tq_then (tc_ret ?_)
    refine tq_know (fun w_ h_ => TRow.out hr8 h_ (i := 0) rfl) (fun ho4 => ?_)
    refine tq_frzR (E := EAsk) 0 hr8 (by have hq_ := queueCheck_iff.1 (by assumption); (try simp only [EAsk, List.length_append, List.length_cons, List.length_nil]); omega) (fun G8 hl8 hs5 => ?_)
    have hf8 : queuePut q a = ((⟨q.most, q.wait ++ [a]⟩ : QueueD), (q.wait.length : Int), 0) := by
     unfold queuePut queuePutE queueZ; simp_all; try omega
    refine tq_ret [2, 0, 0] [.agg #[I q.most, Sl a9 ((q.wait ++ [a]).length) c9], I (q.wait.length : Int), I 0] (bp_rowsA [] (Mem.le_trans hl7 hl8) ?_)
    rw [hf8]
    try dsimp only
    exact ⟨a9, c9, rfl, w1, ⟨hs5, (Nw.base ho4 hl7)⟩, rfl⟩
theorem queueTakeN_con (G : Mem) (vs_q : List Value) (q : QueueD) (h_q : EQueue.R G vs_q q) (n : Int)  : ConP 27 #[.agg vs_q.toArray, I n] G [] (fun u G' L' => ∃ (a1 : Option Addr) (c2 : Nat) (a3 : Option Addr) (c4 : Nat), u = .tuple #[.agg #[I (((queueTake q n).1).most), Sl a1 ((((queueTake q n).1).wait).length) c2], Sl a3 (((queueTake q n).2.1).length) c4, I ((queueTake q n).2.2)] ∧ (-9223372036854775808 ≤ (((queueTake q n).1).most) ∧ (((queueTake q n).1).most) < 9223372036854775808) ∧ (RS EAsk G' a1 c2 (((queueTake q n).1).wait) ∧ Nw G a1 ((((queueTake q n).1).wait).length * EAsk.sz)) ∧ (RS EAsk G' a3 c4 ((queueTake q n).2.1)) ∧ L' = []) := by
 obtain ⟨a1, c1, rfl, w1, hs1⟩ := h_q
 refine con_of Tryz.func27 35 [(0, .agg #[I q.most, Sl a1 q.wait.length c1]), (1, I n)] rfl (fun w0 G0 => ?_)
 refine tc_seq (tc_region ?_)
 refine runL_box 2 #[I q.most, Sl a1 q.wait.length c1] 41 (fun b1 => ?_)
 refine runL_box 4 #[I 0, Sl none 0 0] 41 (fun b2 => ?_)
 refine runL_bn [0,0] [] (runL_nil (tq_then (tc_seq (tc_seq (tc_region ?_)))))
 refine runL_bn [4] [(8, .agg #[I q.most, Sl a1 q.wait.length c1])] ?_
 refine runL_callV 9 (I (queueCheck q)) (queueCheck_con G [I q.most, Sl a1 q.wait.length c1] q (⟨a1, c1, rfl, w1, hs1⟩)) ?_
 refine runL_bn [0] [(7, I (queueCheck q))] (runL_nil (tq_then ?_))
 refine tc_rbn [0,0] [(11, Bo (!decide (queueCheck q = 0)))] ?_
 refine tc_condP (!decide (queueCheck q = 0)) (fun h1 => ?_) (fun h1 => ?_)
 ·
  refine tc_rbn [0,0,3,0,0] [(5, Sl none 0 0), (6, I (queueCheck q))] (tc_ret (tq_then_ret ?_))
  have hf1 : queueTake q n = ((⟨0, []⟩ : QueueD), [], queueCheck q) := by
   unfold queueTake queueZ; simp_all; try omega
  refine tq_ret [0, 0, 0] [.agg #[I 0, Sl none 0 0], Sl none 0 0, I (queueCheck q)] (bp_rowsA [] (Mem.le_refl _) ?_)
  rw [hf1]
  try dsimp only
  exact ⟨none, 0, none, 0, rfl, (by first | assumption | omega | (simp; done) | (simp; omega)), ⟨(RS.nil' EAsk G), (Nw.none _ _)⟩, (RS.nil' EAsk G), rfl⟩
 ·
  refine tc_skip (tq_then (tc_seq ?_))
  refine tc_rbn [0,0] [(15, Bo (decide (n < 0)))] ?_
  refine tc_condP (decide (n < 0)) (fun h2 => ?_) (fun h2 => ?_)
  ·
   refine tc_rbn [0,3,0,0] [(5, Sl none 0 0), (6, I 4)] (tc_ret (tq_then_ret ?_))
   have hf2 : queueTake q n = ((⟨0, []⟩ : QueueD), [], 4) := by
    unfold queueTake queueZ; simp_all; try omega
   refine tq_ret [0, 0, 0] [.agg #[I 0, Sl none 0 0], Sl none 0 0, I 4] (bp_rowsA [] (Mem.le_refl _) ?_)
   rw [hf2]
   try dsimp only
   exact ⟨none, 0, none, 0, rfl, (by first | assumption | omega | (simp; done) | (simp; omega)), ⟨(RS.nil' EAsk G), (Nw.none _ _)⟩, (RS.nil' EAsk G), rfl⟩
  ·
   refine tc_skip (tq_then ?_)
   refine tc_rbn [0,0,4,0,0,0] [(1, I (if (q.wait.length : Int) < n then (q.wait.length : Int) else n))] ?_
   have e1 : (if (q.wait.length : Int) < n then (q.wait.length : Int) else n) = ((minLen n q.wait : Nat) : Int) := minLen_eq (by omega)
   refine tc_put 1 (I ((minLen n q.wait : Nat) : Int)) (congrArg I e1) ?_
   clear e1
   refine tc_seq ?_
   obtain ⟨a2, c2, ea1, ec1, en1, eh1, hs2⟩ := RS.reslXD hs1 (minLen n q.wait) (by have := @minLen_le n q.wait; omega)
   obtain ⟨a3, c3, ea2, ec2, en2, eh2, hs3⟩ := RS.reslXT hs1 (minLen n q.wait) (by have := @minLen_le n q.wait; omega)
   refine tc_draw [6, 12, 13] ?_
   refine dr_V [(0, Pt b1 0), (1, I q.most), (2, Pt b1 1), (3, Sl a1 q.wait.length c1), (4, I ((minLen n q.wait : Nat) : Int)), (5, Sl a2 ((q.wait.drop (minLen n q.wait)).length) c2), (8, Pt b1 1), (9, Sl a1 q.wait.length c1), (10, I ((minLen n q.wait : Nat) : Int)), (11, Sl a3 ((q.wait.take (minLen n q.wait)).length) c3)] ?_
   refine dr_mid [] [(0,0), (1,4), (2,0), (3,4), (4,0), (8,0), (9,4), (10,0)] [5, 11] [6] (fmc ?_ (fmc ?_ fm0)) (fmc ?_ fm0)
   ·
    refine stab_of 5 27 (Sl a2 ((q.wait.drop (minLen n q.wait)).length) c2) [(25, Sl a1 q.wait.length c1), (26, I ((minLen n q.wait : Nat) : Int))] (fun X => ?_)
    exact runL_reslE (a := a1) (len := q.wait.length) (cap := c1) 27 4 (some (I ((minLen n q.wait : Nat) : Int))) none (minLen n q.wait) q.wait.length (.inr ⟨_, rfl⟩) (.inl ⟨rfl, rfl⟩) (by have := @minLen_le n q.wait; omega) ea1 ec1 en1 eh1 stab_end
   ·
    refine stab_of 11 33 (Sl a3 ((q.wait.take (minLen n q.wait)).length) c3) [(31, Sl a1 q.wait.length c1), (32, I ((minLen n q.wait : Nat) : Int))] (fun X => ?_)
    exact runL_reslE (a := a1) (len := q.wait.length) (cap := c1) 33 4 none (some (I ((minLen n q.wait : Nat) : Int))) 0 (minLen n q.wait) (.inl ⟨rfl, rfl⟩) (.inr ⟨_, rfl⟩) (by exact Nat.zero_le _) ea2 ec2 en2 eh2 stab_end
   refine act_of 6 [(27, Sl a2 ((q.wait.drop (minLen n q.wait)).length) c2)] (fun X => ?_)
   refine runL_callR 28 (sclone_EAsk G a2 c2 (q.wait.drop (minLen n q.wait)) hs2) (fun v G1 L1 hl1 hp => ?_)
   obtain ⟨a4, c4, r1, rfl, hr1, rfl⟩ := hp
   refine act_endN [(6, Sl a4 ((q.wait.drop (minLen n q.wait)).length) c4), (7, .agg #[I q.most, Sl a4 ((q.wait.drop (minLen n q.wait)).length) c4])] ?_
   refine dr_mid [2, 3, 4, 5] [(0,0), (1,6), (7,0), (8,0), (9,6), (10,0)] [11] [12] (fmc ?_ fm0) (fmc ?_ fm0)
   ·
    refine stab_of 11 33 (Sl a3 ((q.wait.take (minLen n q.wait)).length) c3) [(31, Sl a1 q.wait.length c1), (32, I ((minLen n q.wait : Nat) : Int))] (fun X => ?_)
    exact runL_reslE (a := a1) (len := q.wait.length) (cap := c1) 33 4 none (some (I ((minLen n q.wait : Nat) : Int))) 0 (minLen n q.wait) (.inl ⟨rfl, rfl⟩) (.inr ⟨_, rfl⟩) (by exact Nat.zero_le _) ea2 ec2 en2 eh2 stab_end
   refine act_of 12 [(33, Sl a3 ((q.wait.take (minLen n q.wait)).length) c3)] (fun X => ?_)
   refine runL_callR 34 (sclone_EAsk G1 a3 c3 (q.wait.take (minLen n q.wait)) (hs3.mono hl1)) (fun v G2 L1 hl2 hp => ?_)
   obtain ⟨a6, c6, r2, rfl, hr2, rfl⟩ := hp
   refine act_endN [(12, Sl a6 ((q.wait.take (minLen n q.wait)).length) c6)] ?_
   refine dr_mid [2, 3, 4, 5, 8, 9, 10, 11] [(0,0), (1,8), (7,0)] [] [13] (List.forall_mem_nil _) (fmc ?_ fm0)
   refine act_of 13 [(4, Pt b2 0), (29, .agg #[I q.most, Sl a4 ((q.wait.drop (minLen n q.wait)).length) c4])] (fun X => ?_)
   refine runL_st 2 [r2, r1, [Sg b2 0 [I q.most, Sl a4 ((q.wait.drop (minLen n q.wait)).length) c4]], [Sg b1 0 [I q.most, Sl a1 q.wait.length c1]]] ?_
   refine act_endN0 [(14, Sl a6 ((q.wait.take (minLen n q.wait)).length) c6), (15, I 0)] ?_
   refine dr_end [0, 1, 2, 3, 4, 5, 7, 8, 9, 10, 11] [(14,0), (15,0)] [] [(4, Pt b2 0), (5, Sl a6 ((q.wait.take (minLen n q.wait)).length) c6), (6, I 0)] (List.forall_mem_nil _) ?_
   refine tq_then (tc_ret ?_)
   refine tq_know (fun w_ h_ => TRow.out (hr1.mono hl2) h_ (i := 1) rfl) (fun ho1 => ?_)
   refine tq_frzR (E := EAsk) 1 (hr1.mono hl2) (by exact (hs2).fit) (fun G3 hl3 hs5 => ?_)
   refine tq_know (fun w_ h_ => TRow.out (hr2.mono hl3) h_ (i := 0) rfl) (fun ho2 => ?_)
   refine tq_frzR (E := EAsk) 0 (hr2.mono hl3) (by exact (hs3.mono hl1).fit) (fun G4 hl4 hs6 => ?_)
   have hf3 : queueTake q n = ((⟨q.most, q.wait.drop (minLen n q.wait)⟩ : QueueD), q.wait.take (minLen n q.wait), 0) := by
    unfold queueTake queueZ; simp_all; try omega
   refine tq_ret [2, 0, 0] [.agg #[I q.most, Sl a4 ((q.wait.drop (minLen n q.wait)).length) c4], Sl a6 ((q.wait.take (minLen n q.wait)).length) c6, I 0] (bp_rowsA [] (Mem.le_trans (Mem.le_trans (Mem.le_trans hl1 hl2) hl3) hl4) ?_)
   rw [hf3]
   try dsimp only
   exact ⟨a4, c4, a6, c6, rfl, (by first | assumption | omega | (simp; done) | (simp; omega)), ⟨(hs5.mono hl4), (Nw.base ho1 (Mem.le_trans hl1 hl2))⟩, hs6, rfl⟩
theorem copiedN_con (G : Mem) (vs_c : List Value) (c : ClerkD) (h_c : EClerk.R G vs_c c) (hb : c.books.length ≤ 1000) : ConP 25 #[.agg vs_c.toArray] G [] (fun u G' L' => ∃ (a1 : Option Addr) (c2 : Nat) (a3 : Option Addr) (c4 : Nat) (a5 : Option Addr), u = .agg #[I c.queue.most, Sl a1 c.queue.wait.length c2, I c.batch, I c.every, I c.now, Sl a3 c.heads.length c4, Sl a5 c.books.length c.books.length] ∧ (-9223372036854775808 ≤ c.queue.most ∧ c.queue.most < 9223372036854775808) ∧ (RS EAsk G' a1 c2 c.queue.wait ∧ Nw G a1 (c.queue.wait.length * EAsk.sz)) ∧ (-9223372036854775808 ≤ c.batch ∧ c.batch < 9223372036854775808) ∧ (-9223372036854775808 ≤ c.every ∧ c.every < 9223372036854775808) ∧ (-9223372036854775808 ≤ c.now ∧ c.now < 9223372036854775808) ∧ (RS EHead G' a3 c4 c.heads ∧ Nw G a3 (c.heads.length * EHead.sz)) ∧ (RS (EBookN G) G' a5 c.books.length c.books ∧ Nw G a5 (c.books.length * (EBookN G).sz)) ∧ L' = []) := by
 obtain ⟨a1, c1, a2, c2, a3, c3, rfl, w1, hs1, w2, w3, w4, hs2, hs3⟩ := h_c
 refine con_of Tryz.func25 37 [(0, .agg #[I c.queue.most, Sl a1 c.queue.wait.length c1, I c.batch, I c.every, I c.now, Sl a2 c.heads.length c2, Sl a3 c.books.length c3])] rfl (fun w0 G0 => ?_)
 refine tc_seq (tc_region ?_)
 refine runL_box 1 #[I c.queue.most, Sl a1 c.queue.wait.length c1, I c.batch, I c.every, I c.now, Sl a2 c.heads.length c2, Sl a3 c.books.length c3] 45 (fun b1 => ?_)
 refine runL_box 2 #[I 0, Sl none 0 0, I 0, I 0, I 0, Sl none 0 0, Sl none 0 0] 45 (fun b2 => ?_)
 refine runL_nil (tq_then (tc_seq (tc_region ?_)))
 refine runL_bn [0,0,4] [(8, Sl a1 c.queue.wait.length c1)] ?_
 refine runL_callR 9 (sclone_EAsk G a1 c1 c.queue.wait hs1) (fun v G1 L1 hl1 hp => ?_)
 obtain ⟨a4, c4, r1, rfl, hr1, rfl⟩ := hp
 refine runL_bsn [0,0,7] [] [r1, [Sg b2 0 [I 0, Sl none 0 0, I 0, I 0, I 0, Sl none 0 0, Sl none 0 0]], [Sg b1 0 [I c.queue.most, Sl a4 c.queue.wait.length c4, I c.batch, I c.every, I c.now, Sl a2 c.heads.length c2, Sl a3 c.books.length c3]]] (runL_nil (tq_then (tc_seq (tc_region ?_))))
 refine runL_bn [0,6] [(13, Sl a2 c.heads.length c2)] ?_
 refine runL_callR 14 (sclone_EHead G1 a2 c2 c.heads (hs2.mono hl1)) (fun v G2 L1 hl2 hp => ?_)
 obtain ⟨a5, c5, r2, rfl, hr2, rfl⟩ := hp
 refine runL_bsn [0,9] [] [r2, r1, [Sg b2 0 [I 0, Sl none 0 0, I 0, I 0, I 0, Sl none 0 0, Sl none 0 0]], [Sg b1 0 [I c.queue.most, Sl a4 c.queue.wait.length c4, I c.batch, I c.every, I c.now, Sl a5 c.heads.length c5, Sl a3 c.books.length c3]]] (runL_nil (tq_then (tc_seq (tc_region ?_))))
 refine runL_bn [0,8,0] [(18, I (c.books.length : Int))] ?_
 refine runL_mkrow (E := (EBookN G)) (bytes := 24) 19 43 25 c.books.length ([] : List EntD) ⟨rfl, rfl, fun G => ⟨_, _, rfl, RS.nil' EEnt G, Nw.none _ _⟩⟩ (by omega) (by omega) (by kernel_rfl) (fun a6 r3 hr3 => ?_)
 refine runL_bn [0] [(3, Sl a6 ((List.replicate c.books.length ([] : List EntD)).length) c.books.length)] (runL_nil (tq_then (tc_seq ?_)))
 refine tc_rbn [0,10,0,0] [(21, Sl a3 c.books.length c3), (22, I (c.books.length : Int)), (23, I 0)] (tc_block ?_)
 have hlm_hs3 : c.books.length ≤ 9223372036854775807 := Nat.le_trans (hs3).le (hs3).max
 refine tc_loop (σ := Nat × Option Addr × Nat × List Seg × List (List EntD) × Mem) (fun q_ => (Mem.le G2 q_.2.2.2.2.2) ∧ (q_.1 ≤ c.books.length) ∧ (TRow (EBookN G) q_.2.2.2.2.2 q_.2.1 q_.2.2.1 q_.2.2.2.2.1 q_.2.2.2.1) ∧ (q_.2.2.2.2.1.length = c.books.length ∧ q_.2.2.2.2.1.take q_.1 = c.books.take q_.1) ∧ (q_.2.2.1 = q_.2.2.2.2.1.length)) (fun q_ => [(1, Pt b1 0), (2, Pt b2 0), (3, Sl q_.2.1 q_.2.2.2.2.1.length q_.2.2.1), (21, Sl a3 c.books.length c3), (22, I (c.books.length : Int)), (23, I (q_.1 : Int))]) (fun q_ => q_.2.2.2.2.2) (fun q_ => [q_.2.2.2.1, r2, r1, [Sg b2 0 [I 0, Sl none 0 0, I 0, I 0, I 0, Sl none 0 0, Sl none 0 0]], [Sg b1 0 [I c.queue.most, Sl a4 c.queue.wait.length c4, I c.batch, I c.every, I c.now, Sl a5 c.heads.length c5, Sl a3 c.books.length c3]]]) (fun q_ => c.books.length - q_.1) (0, a6, c.books.length, r3, (List.replicate c.books.length ([] : List EntD)), G2) ⟨(Mem.le_refl _), (by (try dsimp only); first | exact Nat.zero_le _ | omega | simp), hr3, ⟨by simp, rfl⟩, (by (try dsimp only); simp)⟩ (fun q_ hs => ?_)
 obtain ⟨i, aw, cw, rw, xw, g⟩ := q_
 obtain ⟨hle, hi, hrw, hxw, hcw⟩ := hs
 dsimp only at hle hi hrw hxw hcw
 refine tc_eq (fr' := [(1, Pt b1 0), (2, Pt b2 0), (3, Sl aw xw.length cw), (21, Sl a3 c.books.length c3), (22, I (c.books.length : Int)), (23, I (i : Int))]) (L' := [rw, r2, r1, [Sg b2 0 [I 0, Sl none 0 0, I 0, I 0, I 0, Sl none 0 0, Sl none 0 0]], [Sg b1 0 [I c.queue.most, Sl a4 c.queue.wait.length c4, I c.batch, I c.every, I c.now, Sl a5 c.heads.length c5, Sl a3 c.books.length c3]]]) rfl rfl ?_
 refine tc_rbn [0] [(24, Bo (decide ((i : Int) < (c.books.length : Int))))] (tc_seq ?_)
 refine tc_condP (decide ((i : Int) < (c.books.length : Int))) (fun h1 => ?_) (fun h1 => ?_)
 ·
  refine tc_skip (tq_then (tc_seq (tc_block (tc_seq (tc_region ?_)))))
  refine runL_bn [0] [(25, I (i : Int))] ?_
  obtain ⟨b3, o1, rfl⟩ := RS.addr (hs3.mono (Mem.le_trans (Mem.le_trans hl1 hl2) hle)) (k := i) (by omega)
  obtain ⟨x1, hx1⟩ := getX (l := c.books) (k := i) (by omega)
  obtain ⟨_, ⟨a7, c6, rfl, hs4⟩, hc1⟩ := RS.get (hs3.mono (Mem.le_trans (Mem.le_trans hl1 hl2) hle)) hx1
  refine runL_idx (b := b3) (off := o1) (len := c.books.length) (cap := c3) (ik := .i64) 26 25 1 i (by omega) ?_
  refine runL_ldG 27 25 (cs := [Sl a7 x1.length c6]) 0 (Sl a7 x1.length c6) hc1 ?_
  refine runL_bn [0,0] [(4, I (i : Int)), (5, Sl a7 x1.length c6)] (runL_nil (tq_then (tc_region ?_)))
  refine runL_bn [0,0,0] [(28, Sl aw xw.length cw), (29, I (i : Int)), (30, Sl a7 x1.length c6)] ?_
  refine runL_callR 31 (sclone_EEnt g a7 c6 x1 hs4) (fun v G3 L1 hl3 hp => ?_)
  obtain ⟨a8, c7, r4, rfl, hr4, rfl⟩ := hp
  obtain ⟨x2, hx2⟩ := getX (l := xw) (k := i) (by omega)
  obtain ⟨b4, o2, fu1, _, ⟨a9, c8, rfl, hs5⟩, ha1, hre1, hc2⟩ := TRow.ix (hrw.mono hl3) hx2
  refine runL_idxR (b := b4) (off := o2) (len := xw.length) (cap := cw) (ik := .i64) 32 25 1 i ha1 (by omega) ?_
  refine runL_know (fun w_ h_ => TRow.out hr4 h_ (i := 0) rfl) (fun ho1 => ?_)
  refine runL_frzR (E := EEnt) 0 hr4 (by exact (hs4).fit) (fun G4 hl4 hs6 => ?_)
  refine runL_stR (b := b4) (off := o2) 1 (hrw.mono (Mem.le_trans hl3 hl4)) i x1 ha1 (by omega) (Sl a8 x1.length c7) [Sl a8 x1.length c7] ⟨a8, c7, rfl, hs6, (Nw.base ho1 (Mem.le_trans (Mem.le_trans (Mem.le_trans hl1 hl2) hle) hl3))⟩ (fun r5 hr5 => ?_)
  have e1 : xw.length = (xw.set i x1).length := (List.length_set ..).symm
  refine runL_put 3 (Sl aw ((xw.set i x1).length) cw) (congrArg (Sl aw · cw) e1) ?_
  refine runL_put 28 (Sl aw ((xw.set i x1).length) cw) (congrArg (Sl aw · cw) e1) ?_
  refine runL_nil (tq_block (tq_then (tc_region ?_)))
  refine runL_bn [0,0] [(23, I (IntKind.i64.wrap ((i : Int) + 1)))] ?_
  refine runL_wi64 23 ((i : Int) + 1) (by omega) ?_
  refine runL_nil ?_
  refine tq_ownsA [r5, r2, r1, [Sg b2 0 [I 0, Sl none 0 0, I 0, I 0, I 0, Sl none 0 0, Sl none 0 0]], [Sg b1 0 [I c.queue.most, Sl a4 c.queue.wait.length c4, I c.batch, I c.every, I c.now, Sl a5 c.heads.length c5, Sl (At b3 o1) c.books.length c3]]] ?_
  exact tq_rnd (i + 1, aw, cw, r5, xw.set i x1, G4) ⟨(Mem.le_trans hle (Mem.le_trans hl3 hl4)), (by omega), hr5, ⟨by simp only [List.length_set]; exact hxw.1, set_take hxw.2 (by omega) hx1⟩, (by simp only [List.length_set]; exact hcw)⟩ (by (try dsimp only); omega)
 ·
  refine tc_exit (tq_then_exit (tq_rnd_exit (tq_block_here (tq_then ?_))))
  refine tc_rbsn [0,0,11] [] [rw, r2, r1, [Sg b2 0 [I 0, Sl none 0 0, I 0, I 0, I 0, Sl none 0 0, Sl none 0 0]], [Sg b1 0 [I c.queue.most, Sl a4 c.queue.wait.length c4, I c.batch, I c.every, I c.now, Sl a5 c.heads.length c5, Sl aw xw.length cw]]] ?_
  refine tc_rbsn [10,9] [] [rw, r2, r1, [Sg b2 0 [I c.queue.most, Sl a4 c.queue.wait.length c4, I c.batch, I c.every, I c.now, Sl a5 c.heads.length c5, Sl aw xw.length cw]], [Sg b1 0 [I c.queue.most, Sl a4 c.queue.wait.length c4, I c.batch, I c.every, I c.now, Sl a5 c.heads.length c5, Sl aw xw.length cw]]] (tc_ret ?_)
  subst hcw
  refine tq_know (fun w_ h_ => TRow.out (hr1.mono (Mem.le_trans hl2 hle)) h_ (i := 2) rfl) (fun ho2 => ?_)
  refine tq_frzR (E := EAsk) 2 (hr1.mono (Mem.le_trans hl2 hle)) (by exact (hs1).fit) (fun G5 hl5 hs7 => ?_)
  refine tq_know (fun w_ h_ => TRow.out (hr2.mono (Mem.le_trans hle hl5)) h_ (i := 1) rfl) (fun ho3 => ?_)
  refine tq_frzR (E := EHead) 1 (hr2.mono (Mem.le_trans hle hl5)) (by exact (hs2.mono hl1).fit) (fun G6 hl6 hs8 => ?_)
  refine tq_know (fun w_ h_ => TRow.out (hrw.mono (Mem.le_trans hl5 hl6)) h_ (i := 0) rfl) (fun ho4 => ?_)
  refine tq_frzR (E := (EBookN G)) 0 (hrw.mono (Mem.le_trans hl5 hl6)) (by simp only [EBookN]; omega) (fun G7 hl7 hs9 => ?_)
  have hf1 : c = (⟨c.queue, c.batch, c.every, c.now, c.heads, xw⟩ : ClerkD) := by
   have e_ : xw = c.books := take_eq_of hxw.1 hxw.2 (by omega); subst e_; rfl
  refine tq_ret [3] [.agg #[I c.queue.most, Sl a4 c.queue.wait.length c4, I c.batch, I c.every, I c.now, Sl a5 c.heads.length c5, Sl aw xw.length xw.length]] (bp_rowsA [] (Mem.le_trans (Mem.le_trans (Mem.le_trans (Mem.le_trans (Mem.le_trans hl1 hl2) hle) hl5) hl6) hl7) ?_)
  rw [hf1]
  try dsimp only
  exact ⟨a4, c4, a5, c5, aw, rfl, w1, ⟨(hs7.mono (Mem.le_trans hl6 hl7)), (Nw.base ho2 (Mem.le_trans (Mem.le_trans hl1 hl2) hle))⟩, w2, w3, w4, ⟨(hs8.mono hl7), (Nw.base ho3 (Mem.le_trans (Mem.le_trans (Mem.le_trans hl1 hl2) hle) hl5))⟩, ⟨hs9, (Nw.base ho4 (Mem.le_trans (Mem.le_trans (Mem.le_trans (Mem.le_trans hl1 hl2) hle) hl5) hl6))⟩, rfl⟩
theorem clerkAskN_con (G : Mem) (vs_c : List Value) (c : ClerkD) (h_c : EClerk.R G vs_c c) (vs_a : List Value) (a : AskD) (h_a : EAsk.R G vs_a a)  : ConP 11 #[.agg vs_c.toArray, .agg vs_a.toArray] G [] (fun u G' L' => ∃ (a1 : Option Addr) (c2 : Nat) (a3 : Option Addr) (c4 : Nat) (a5 : Option Addr) (c6 : Nat), u = .tuple #[.agg #[I (((clerkAsk c a).1).queue.most), Sl a1 ((((clerkAsk c a).1).queue.wait).length) c2, I (((clerkAsk c a).1).batch), I (((clerkAsk c a).1).every), I (((clerkAsk c a).1).now), Sl a3 ((((clerkAsk c a).1).heads).length) c4, Sl a5 ((((clerkAsk c a).1).books).length) c6], I ((clerkAsk c a).2.1), I ((clerkAsk c a).2.2)] ∧ (-9223372036854775808 ≤ (((clerkAsk c a).1).queue.most) ∧ (((clerkAsk c a).1).queue.most) < 9223372036854775808) ∧ (RS EAsk G' a1 c2 (((clerkAsk c a).1).queue.wait) ∧ Nw G a1 ((((clerkAsk c a).1).queue.wait).length * EAsk.sz)) ∧ (-9223372036854775808 ≤ (((clerkAsk c a).1).batch) ∧ (((clerkAsk c a).1).batch) < 9223372036854775808) ∧ (-9223372036854775808 ≤ (((clerkAsk c a).1).every) ∧ (((clerkAsk c a).1).every) < 9223372036854775808) ∧ (-9223372036854775808 ≤ (((clerkAsk c a).1).now) ∧ (((clerkAsk c a).1).now) < 9223372036854775808) ∧ (RS EHead G' a3 c4 (((clerkAsk c a).1).heads) ∧ Nw G a3 ((((clerkAsk c a).1).heads).length * EHead.sz)) ∧ (RS (EBookN G) G' a5 c6 (((clerkAsk c a).1).books) ∧ Nw G a5 ((((clerkAsk c a).1).books).length * (EBookN G).sz)) ∧ L' = []) := by
 obtain ⟨a1, c1, a2, c2, a3, c3, rfl, w1, hs1, w2, w3, w4, hs2, hs3⟩ := h_c
 obtain ⟨rfl, w5, w6, w7, w8⟩ := h_a
 refine con_of Tryz.func11 76 [(0, .agg #[I c.queue.most, Sl a1 c.queue.wait.length c1, I c.batch, I c.every, I c.now, Sl a2 c.heads.length c2, Sl a3 c.books.length c3]), (1, .agg #[Sr a.name, Sr a.value, U a.n, U a.tag])] rfl (fun w0 G0 => ?_)
 refine tc_seq (tc_region ?_)
 refine runL_box 2 #[I c.queue.most, Sl a1 c.queue.wait.length c1, I c.batch, I c.every, I c.now, Sl a2 c.heads.length c2, Sl a3 c.books.length c3] 45 (fun b1 => ?_)
 refine runL_box 3 #[Sr a.name, Sr a.value, U a.n, U a.tag] 47 (fun b2 => ?_)
 refine runL_box 4 #[I 0, Sl none 0 0, I 0, I 0, I 0, Sl none 0 0, Sl none 0 0] 45 (fun b3 => ?_)
 refine runL_bn [0,0] [] (runL_nil (tq_then (tc_seq (tc_seq (tc_region ?_)))))
 refine runL_bn [6] [(13, .agg #[I c.queue.most, Sl a1 c.queue.wait.length c1, I c.batch, I c.every, I c.now, Sl a2 c.heads.length c2, Sl a3 c.books.length c3])] ?_
 refine runL_callV 14 (I (clerkCheck c)) (clerkCheck_con G [I c.queue.most, Sl a1 c.queue.wait.length c1, I c.batch, I c.every, I c.now, Sl a2 c.heads.length c2, Sl a3 c.books.length c3] c (⟨a1, c1, a2, c2, a3, c3, rfl, w1, hs1, w2, w3, w4, hs2, hs3⟩)) ?_
 refine runL_bn [0] [(7, I (clerkCheck c))] (runL_nil (tq_then ?_))
 refine tc_rbn [0,0] [(16, Bo (!decide (clerkCheck c = 0)))] ?_
 refine tc_condP (!decide (clerkCheck c = 0)) (fun h1 => ?_) (fun h1 => ?_)
 ·
  refine tc_rbn [0,0,3,0,0] [(5, I 0), (6, I (clerkCheck c))] (tc_ret (tq_then_ret ?_))
  have hf1 : clerkAsk c a = ((⟨(⟨0, []⟩ : QueueD), 0, 0, 0, [], []⟩ : ClerkD), 0, clerkCheck c) := by
   unfold clerkAsk clerkZ; first | (rw [if_pos (by assumption)]; done) | (rw [if_neg (by simp_all)]; simp_all; done) | (rw [if_neg (by simp_all)]; simp_all; grind)
  refine tq_ret [0, 0, 0] [.agg #[I 0, Sl none 0 0, I 0, I 0, I 0, Sl none 0 0, Sl none 0 0], I 0, I (clerkCheck c)] (bp_rowsA [] (Mem.le_refl _) ?_)
  rw [hf1]
  try dsimp only
  exact ⟨none, 0, none, 0, none, 0, rfl, (by first | (first | assumption | omega | (have q_ := ck_bd (by assumption); have q10_ := tmod_bd (n := c.now) (e := c.every) (by omega) (by omega); have q11_ := qw_bd (queuePut c.queue a).2.1 c.batch c.every; omega) | (simp; done) | (simp; omega)) | (dsimp only; first | assumption | omega | (have q_ := ck_bd (by assumption); have q10_ := tmod_bd (n := c.now) (e := c.every) (by omega) (by omega); have q11_ := qw_bd (queuePut c.queue a).2.1 c.batch c.every; omega) | (simp; done) | (simp; omega))), ⟨(RS.nil' EAsk G), (Nw.none _ _)⟩, (by first | (first | assumption | omega | (have q_ := ck_bd (by assumption); have q10_ := tmod_bd (n := c.now) (e := c.every) (by omega) (by omega); have q11_ := qw_bd (queuePut c.queue a).2.1 c.batch c.every; omega) | (simp; done) | (simp; omega)) | (dsimp only; first | assumption | omega | (have q_ := ck_bd (by assumption); have q10_ := tmod_bd (n := c.now) (e := c.every) (by omega) (by omega); have q11_ := qw_bd (queuePut c.queue a).2.1 c.batch c.every; omega) | (simp; done) | (simp; omega))), (by first | (first | assumption | omega | (have q_ := ck_bd (by assumption); have q10_ := tmod_bd (n := c.now) (e := c.every) (by omega) (by omega); have q11_ := qw_bd (queuePut c.queue a).2.1 c.batch c.every; omega) | (simp; done) | (simp; omega)) | (dsimp only; first | assumption | omega | (have q_ := ck_bd (by assumption); have q10_ := tmod_bd (n := c.now) (e := c.every) (by omega) (by omega); have q11_ := qw_bd (queuePut c.queue a).2.1 c.batch c.every; omega) | (simp; done) | (simp; omega))), (by first | (first | assumption | omega | (have q_ := ck_bd (by assumption); have q10_ := tmod_bd (n := c.now) (e := c.every) (by omega) (by omega); have q11_ := qw_bd (queuePut c.queue a).2.1 c.batch c.every; omega) | (simp; done) | (simp; omega)) | (dsimp only; first | assumption | omega | (have q_ := ck_bd (by assumption); have q10_ := tmod_bd (n := c.now) (e := c.every) (by omega) (by omega); have q11_ := qw_bd (queuePut c.queue a).2.1 c.batch c.every; omega) | (simp; done) | (simp; omega))), ⟨(RS.nil' EHead G), (Nw.none _ _)⟩, ⟨(RS.nil' (EBookN G) G), (Nw.none _ _)⟩, rfl⟩
 ·
  refine tc_skip (tq_then (tc_seq (tc_region ?_)))
  refine runL_bn [0,6,4] [(21, .agg #[I c.queue.most, Sl a1 c.queue.wait.length c1]), (22, .agg #[Sr a.name, Sr a.value, U a.n, U a.tag])] ?_
  refine runL_callR 23 (queuePutN_con G [I c.queue.most, Sl a1 c.queue.wait.length c1] c.queue (⟨a1, c1, rfl, w1, hs1⟩) [Sr a.name, Sr a.value, U a.n, U a.tag] a (⟨rfl, w5, w6, w7, w8⟩)) (fun v G1 L1 hl1 hp => ?_)
  obtain ⟨a4, c4, rfl, w9, hs4, rfl⟩ := hp
  refine runL_bn [0,0,0,0] [(24, .agg #[I (((queuePut c.queue a).1).most), Sl a4 ((((queuePut c.queue a).1).wait).length) c4]), (25, I ((queuePut c.queue a).2.1)), (26, I ((queuePut c.queue a).2.2))] ?_
  refine runL_box 8 #[I 0, Sl none 0 0] 41 (fun b4 => ?_)
  refine runL_bsn [3,0,0] [(9, I ((queuePut c.queue a).2.1)), (10, I ((queuePut c.queue a).2.2))] [[Sg b4 0 [I (((queuePut c.queue a).1).most), Sl a4 ((((queuePut c.queue a).1).wait).length) c4]], [Sg b3 0 [I 0, Sl none 0 0, I 0, I 0, I 0, Sl none 0 0, Sl none 0 0]], [Sg b2 0 [Sr a.name, Sr a.value, U a.n, U a.tag]], [Sg b1 0 [I c.queue.most, Sl a1 c.queue.wait.length c1, I c.batch, I c.every, I c.now, Sl a2 c.heads.length c2, Sl a3 c.books.length c3]]] (runL_nil (tq_then (tc_seq (tc_block (tc_seq (tc_region ?_))))))
  refine runL_bn [0,0,0] [(30, Bo (!decide ((queuePut c.queue a).2.2 = 0)))] ?_
  refine runL_b2n (!decide ((queuePut c.queue a).2.2 = 0)) [30] [0,0,0] [1,1,0] (fun bb => [(33, Bo (bb && (!decide ((queuePut c.queue a).2.2 = 7))))]) ?_
  refine runL_bn [0] [(27, Bo ((!decide ((queuePut c.queue a).2.2 = 0)) && (!decide ((queuePut c.queue a).2.2 = 7))))] (runL_nil (tq_then ?_))
  refine tc_condP ((!decide ((queuePut c.queue a).2.2 = 0)) && (!decide ((queuePut c.queue a).2.2 = 7))) (fun h2 => ?_) (fun h2 => ?_)
  ·
   refine tc_rbn [0,0,5,0,0] [(5, I 0), (6, I ((queuePut c.queue a).2.2))] (tc_ret (tq_block_ret (tq_then_ret ?_)))
   have hf2 : clerkAsk c a = ((⟨(⟨0, []⟩ : QueueD), 0, 0, 0, [], []⟩ : ClerkD), 0, (queuePut c.queue a).2.2) := by
    unfold clerkAsk clerkZ; first | (rw [if_pos (by assumption)]; done) | (rw [if_neg (by simp_all)]; simp_all; done) | (rw [if_neg (by simp_all)]; simp_all; grind)
   refine tq_ret [1, 0, 0] [.agg #[I 0, Sl none 0 0, I 0, I 0, I 0, Sl none 0 0, Sl none 0 0], I 0, I ((queuePut c.queue a).2.2)] (bp_rowsA [] hl1 ?_)
   rw [hf2]
   try dsimp only
   exact ⟨none, 0, none, 0, none, 0, rfl, (by first | (first | assumption | omega | (have q_ := ck_bd (by assumption); have q10_ := tmod_bd (n := c.now) (e := c.every) (by omega) (by omega); have q11_ := qw_bd (queuePut c.queue a).2.1 c.batch c.every; omega) | (simp; done) | (simp; omega)) | (dsimp only; first | assumption | omega | (have q_ := ck_bd (by assumption); have q10_ := tmod_bd (n := c.now) (e := c.every) (by omega) (by omega); have q11_ := qw_bd (queuePut c.queue a).2.1 c.batch c.every; omega) | (simp; done) | (simp; omega))), ⟨(RS.nil' EAsk G1), (Nw.none _ _)⟩, (by first | (first | assumption | omega | (have q_ := ck_bd (by assumption); have q10_ := tmod_bd (n := c.now) (e := c.every) (by omega) (by omega); have q11_ := qw_bd (queuePut c.queue a).2.1 c.batch c.every; omega) | (simp; done) | (simp; omega)) | (dsimp only; first | assumption | omega | (have q_ := ck_bd (by assumption); have q10_ := tmod_bd (n := c.now) (e := c.every) (by omega) (by omega); have q11_ := qw_bd (queuePut c.queue a).2.1 c.batch c.every; omega) | (simp; done) | (simp; omega))), (by first | (first | assumption | omega | (have q_ := ck_bd (by assumption); have q10_ := tmod_bd (n := c.now) (e := c.every) (by omega) (by omega); have q11_ := qw_bd (queuePut c.queue a).2.1 c.batch c.every; omega) | (simp; done) | (simp; omega)) | (dsimp only; first | assumption | omega | (have q_ := ck_bd (by assumption); have q10_ := tmod_bd (n := c.now) (e := c.every) (by omega) (by omega); have q11_ := qw_bd (queuePut c.queue a).2.1 c.batch c.every; omega) | (simp; done) | (simp; omega))), (by first | (first | assumption | omega | (have q_ := ck_bd (by assumption); have q10_ := tmod_bd (n := c.now) (e := c.every) (by omega) (by omega); have q11_ := qw_bd (queuePut c.queue a).2.1 c.batch c.every; omega) | (simp; done) | (simp; omega)) | (dsimp only; first | assumption | omega | (have q_ := ck_bd (by assumption); have q10_ := tmod_bd (n := c.now) (e := c.every) (by omega) (by omega); have q11_ := qw_bd (queuePut c.queue a).2.1 c.batch c.every; omega) | (simp; done) | (simp; omega))), ⟨(RS.nil' EHead G1), (Nw.none _ _)⟩, ⟨(RS.nil' (EBookN G) G1), (Nw.none _ _)⟩, rfl⟩
  ·
   refine tc_seq (tc_region ?_)
   refine runL_bn [8] [(37, .agg #[I c.queue.most, Sl a1 c.queue.wait.length c1, I c.batch, I c.every, I c.now, Sl a2 c.heads.length c2, Sl a3 c.books.length c3])] ?_
   refine runL_callV 38 (Bo (closedB c)) (closedB_con G1 [I c.queue.most, Sl a1 c.queue.wait.length c1, I c.batch, I c.every, I c.now, Sl a2 c.heads.length c2, Sl a3 c.books.length c3] c (⟨a1, c1, a2, c2, a3, c3, rfl, w1, (hs1.mono hl1), w2, w3, w4, (hs2.mono hl1), (hs3.mono hl1)⟩)) ?_
   refine runL_bn [0] [(36, Bo (closedB c))] (runL_nil (tq_then ?_))
   refine tc_condP (closedB c) (fun h3 => ?_) (fun h3 => ?_)
   ·
    refine tc_rbn [0,5,0,0] [(5, I 0), (6, I 9)] (tc_ret (tq_block_ret (tq_then_ret ?_)))
    have hf3 : clerkAsk c a = ((⟨(⟨0, []⟩ : QueueD), 0, 0, 0, [], []⟩ : ClerkD), 0, 9) := by
     unfold clerkAsk clerkZ; first | (rw [if_pos (by assumption)]; done) | (rw [if_neg (by simp_all)]; simp_all; done) | (rw [if_neg (by simp_all)]; simp_all; grind)
    refine tq_ret [1, 0, 0] [.agg #[I 0, Sl none 0 0, I 0, I 0, I 0, Sl none 0 0, Sl none 0 0], I 0, I 9] (bp_rowsA [] hl1 ?_)
    rw [hf3]
    try dsimp only
    exact ⟨none, 0, none, 0, none, 0, rfl, (by first | (first | assumption | omega | (have q_ := ck_bd (by assumption); have q10_ := tmod_bd (n := c.now) (e := c.every) (by omega) (by omega); have q11_ := qw_bd (queuePut c.queue a).2.1 c.batch c.every; omega) | (simp; done) | (simp; omega)) | (dsimp only; first | assumption | omega | (have q_ := ck_bd (by assumption); have q10_ := tmod_bd (n := c.now) (e := c.every) (by omega) (by omega); have q11_ := qw_bd (queuePut c.queue a).2.1 c.batch c.every; omega) | (simp; done) | (simp; omega))), ⟨(RS.nil' EAsk G1), (Nw.none _ _)⟩, (by first | (first | assumption | omega | (have q_ := ck_bd (by assumption); have q10_ := tmod_bd (n := c.now) (e := c.every) (by omega) (by omega); have q11_ := qw_bd (queuePut c.queue a).2.1 c.batch c.every; omega) | (simp; done) | (simp; omega)) | (dsimp only; first | assumption | omega | (have q_ := ck_bd (by assumption); have q10_ := tmod_bd (n := c.now) (e := c.every) (by omega) (by omega); have q11_ := qw_bd (queuePut c.queue a).2.1 c.batch c.every; omega) | (simp; done) | (simp; omega))), (by first | (first | assumption | omega | (have q_ := ck_bd (by assumption); have q10_ := tmod_bd (n := c.now) (e := c.every) (by omega) (by omega); have q11_ := qw_bd (queuePut c.queue a).2.1 c.batch c.every; omega) | (simp; done) | (simp; omega)) | (dsimp only; first | assumption | omega | (have q_ := ck_bd (by assumption); have q10_ := tmod_bd (n := c.now) (e := c.every) (by omega) (by omega); have q11_ := qw_bd (queuePut c.queue a).2.1 c.batch c.every; omega) | (simp; done) | (simp; omega))), (by first | (first | assumption | omega | (have q_ := ck_bd (by assumption); have q10_ := tmod_bd (n := c.now) (e := c.every) (by omega) (by omega); have q11_ := qw_bd (queuePut c.queue a).2.1 c.batch c.every; omega) | (simp; done) | (simp; omega)) | (dsimp only; first | assumption | omega | (have q_ := ck_bd (by assumption); have q10_ := tmod_bd (n := c.now) (e := c.every) (by omega) (by omega); have q11_ := qw_bd (queuePut c.queue a).2.1 c.batch c.every; omega) | (simp; done) | (simp; omega))), ⟨(RS.nil' EHead G1), (Nw.none _ _)⟩, ⟨(RS.nil' (EBookN G) G1), (Nw.none _ _)⟩, rfl⟩
   ·
    refine tc_seq (tc_region ?_)
    refine runL_bn [0,0,0] [(43, Bo (decide ((queuePut c.queue a).2.2 = 7)))] ?_
    refine runL_casesT [43] (decide ((queuePut c.queue a).2.2 = 7)) (fun h4 => ?_) (fun h4 => ?_)
    ·
     refine runL_bn [1,1,1,1,1,1,0,0] [(40, Bo true)] (runL_nil (tq_then ?_))
     refine tc_cond_true ?_
     refine tc_rbn [0,5,0,0] [(5, I 0), (6, I 7)] (tc_ret (tq_block_ret (tq_then_ret ?_)))
     have hf4 : clerkAsk c a = ((⟨(⟨0, []⟩ : QueueD), 0, 0, 0, [], []⟩ : ClerkD), 0, 7) := by
      unfold clerkAsk clerkZ; first | (rw [if_pos (by assumption)]; done) | (rw [if_neg (by simp_all)]; simp_all; done) | (rw [if_neg (by simp_all)]; simp_all; grind)
     refine tq_ret [1, 0, 0] [.agg #[I 0, Sl none 0 0, I 0, I 0, I 0, Sl none 0 0, Sl none 0 0], I 0, I 7] (bp_rowsA [] hl1 ?_)
     rw [hf4]
     try dsimp only
     exact ⟨none, 0, none, 0, none, 0, rfl, (by first | (first | assumption | omega | (have q_ := ck_bd (by assumption); have q10_ := tmod_bd (n := c.now) (e := c.every) (by omega) (by omega); have q11_ := qw_bd (queuePut c.queue a).2.1 c.batch c.every; omega) | (simp; done) | (simp; omega)) | (dsimp only; first | assumption | omega | (have q_ := ck_bd (by assumption); have q10_ := tmod_bd (n := c.now) (e := c.every) (by omega) (by omega); have q11_ := qw_bd (queuePut c.queue a).2.1 c.batch c.every; omega) | (simp; done) | (simp; omega))), ⟨(RS.nil' EAsk G1), (Nw.none _ _)⟩, (by first | (first | assumption | omega | (have q_ := ck_bd (by assumption); have q10_ := tmod_bd (n := c.now) (e := c.every) (by omega) (by omega); have q11_ := qw_bd (queuePut c.queue a).2.1 c.batch c.every; omega) | (simp; done) | (simp; omega)) | (dsimp only; first | assumption | omega | (have q_ := ck_bd (by assumption); have q10_ := tmod_bd (n := c.now) (e := c.every) (by omega) (by omega); have q11_ := qw_bd (queuePut c.queue a).2.1 c.batch c.every; omega) | (simp; done) | (simp; omega))), (by first | (first | assumption | omega | (have q_ := ck_bd (by assumption); have q10_ := tmod_bd (n := c.now) (e := c.every) (by omega) (by omega); have q11_ := qw_bd (queuePut c.queue a).2.1 c.batch c.every; omega) | (simp; done) | (simp; omega)) | (dsimp only; first | assumption | omega | (have q_ := ck_bd (by assumption); have q10_ := tmod_bd (n := c.now) (e := c.every) (by omega) (by omega); have q11_ := qw_bd (queuePut c.queue a).2.1 c.batch c.every; omega) | (simp; done) | (simp; omega))), (by first | (first | assumption | omega | (have q_ := ck_bd (by assumption); have q10_ := tmod_bd (n := c.now) (e := c.every) (by omega) (by omega); have q11_ := qw_bd (queuePut c.queue a).2.1 c.batch c.every; omega) | (simp; done) | (simp; omega)) | (dsimp only; first | assumption | omega | (have q_ := ck_bd (by assumption); have q10_ := tmod_bd (n := c.now) (e := c.every) (by omega) (by omega); have q11_ := qw_bd (queuePut c.queue a).2.1 c.batch c.every; omega) | (simp; done) | (simp; omega))), ⟨(RS.nil' EHead G1), (Nw.none _ _)⟩, ⟨(RS.nil' (EBookN G) G1), (Nw.none _ _)⟩, rfl⟩
    ·
     refine runL_bn [8,0,6] [(44, .agg #[I c.queue.most, Sl a1 c.queue.wait.length c1, I c.batch, I c.every, I c.now, Sl a2 c.heads.length c2, Sl a3 c.books.length c3]), (46, Sr a.name)] ?_
     refine runL_bsl 47 1 #[Sr a.name] 9 (fun b5 => ?_)
     refine runL_frz1 (b := b5) (o := 0) (cs := [Sr a.name]) 0 (fun G2 hl2 hz1 => ?_)
     have hs5 : RS ES G2 (At b5 0) 1 [a.name] := RS.lit [[Sr a.name]] [a.name] ⟨⟨rfl, w5⟩, trivial⟩ hz1 (Nat.le_of_ble_eq_true rfl) (Nat.le_of_ble_eq_true rfl)
     refine runL_callV 48 (I (clerkNames c ([a.name]))) (clerkNames_con G2 [I c.queue.most, Sl a1 c.queue.wait.length c1, I c.batch, I c.every, I c.now, Sl a2 c.heads.length c2, Sl a3 c.books.length c3] c (⟨a1, c1, a2, c2, a3, c3, rfl, w1, (hs1.mono (Mem.le_trans hl1 hl2)), w2, w3, w4, (hs2.mono (Mem.le_trans hl1 hl2)), (hs3.mono (Mem.le_trans hl1 hl2))⟩) (At b5 0) 1 ([a.name]) hs5 (by first | assumption | omega | (simp; done) | (have q_ := ck_bd (by assumption); (try dsimp only); omega)) (by first | assumption | omega | (simp; done) | (have q_ := ck_bd (by assumption); (try dsimp only); omega)) (by first | assumption | omega | (simp; done) | (have q_ := ck_bd (by assumption); (try dsimp only); omega)) (by first | assumption | omega | (simp; done) | (have q_ := ck_bd (by assumption); (try dsimp only); omega)) (by first | assumption | omega | (simp; done) | (have q_ := ck_bd (by assumption); (try dsimp only); omega))) ?_
     refine runL_bn [0,0,0] [(40, Bo (decide (clerkNames c ([a.name]) > 24)))] (runL_nil (tq_then ?_))
     refine tc_condP (decide (clerkNames c ([a.name]) > 24)) (fun h5 => ?_) (fun h5 => ?_)
     ·
      refine tc_rbn [0,7,0,0] [(5, I 0), (6, I 7)] (tc_ret (tq_block_ret (tq_then_ret ?_)))
      have hf5 : clerkAsk c a = ((⟨(⟨0, []⟩ : QueueD), 0, 0, 0, [], []⟩ : ClerkD), 0, 7) := by
       unfold clerkAsk clerkZ; first | (rw [if_pos (by assumption)]; done) | (rw [if_neg (by simp_all)]; simp_all; done) | (rw [if_neg (by simp_all)]; simp_all; grind)
      refine tq_ret [2, 0, 0] [.agg #[I 0, Sl none 0 0, I 0, I 0, I 0, Sl none 0 0, Sl none 0 0], I 0, I 7] (bp_rowsA [] (Mem.le_trans hl1 hl2) ?_)
      rw [hf5]
      try dsimp only
      exact ⟨none, 0, none, 0, none, 0, rfl, (by first | (first | assumption | omega | (have q_ := ck_bd (by assumption); have q10_ := tmod_bd (n := c.now) (e := c.every) (by omega) (by omega); have q11_ := qw_bd (queuePut c.queue a).2.1 c.batch c.every; omega) | (simp; done) | (simp; omega)) | (dsimp only; first | assumption | omega | (have q_ := ck_bd (by assumption); have q10_ := tmod_bd (n := c.now) (e := c.every) (by omega) (by omega); have q11_ := qw_bd (queuePut c.queue a).2.1 c.batch c.every; omega) | (simp; done) | (simp; omega))), ⟨(RS.nil' EAsk G2), (Nw.none _ _)⟩, (by first | (first | assumption | omega | (have q_ := ck_bd (by assumption); have q10_ := tmod_bd (n := c.now) (e := c.every) (by omega) (by omega); have q11_ := qw_bd (queuePut c.queue a).2.1 c.batch c.every; omega) | (simp; done) | (simp; omega)) | (dsimp only; first | assumption | omega | (have q_ := ck_bd (by assumption); have q10_ := tmod_bd (n := c.now) (e := c.every) (by omega) (by omega); have q11_ := qw_bd (queuePut c.queue a).2.1 c.batch c.every; omega) | (simp; done) | (simp; omega))), (by first | (first | assumption | omega | (have q_ := ck_bd (by assumption); have q10_ := tmod_bd (n := c.now) (e := c.every) (by omega) (by omega); have q11_ := qw_bd (queuePut c.queue a).2.1 c.batch c.every; omega) | (simp; done) | (simp; omega)) | (dsimp only; first | assumption | omega | (have q_ := ck_bd (by assumption); have q10_ := tmod_bd (n := c.now) (e := c.every) (by omega) (by omega); have q11_ := qw_bd (queuePut c.queue a).2.1 c.batch c.every; omega) | (simp; done) | (simp; omega))), (by first | (first | assumption | omega | (have q_ := ck_bd (by assumption); have q10_ := tmod_bd (n := c.now) (e := c.every) (by omega) (by omega); have q11_ := qw_bd (queuePut c.queue a).2.1 c.batch c.every; omega) | (simp; done) | (simp; omega)) | (dsimp only; first | assumption | omega | (have q_ := ck_bd (by assumption); have q10_ := tmod_bd (n := c.now) (e := c.every) (by omega) (by omega); have q11_ := qw_bd (queuePut c.queue a).2.1 c.batch c.every; omega) | (simp; done) | (simp; omega))), ⟨(RS.nil' EHead G2), (Nw.none _ _)⟩, ⟨(RS.nil' (EBookN G) G2), (Nw.none _ _)⟩, rfl⟩
     ·
      refine tc_skip (tq_block (tq_then (tc_seq (tc_region ?_))))
      refine runL_bn [10] [(52, .agg #[I c.queue.most, Sl a1 c.queue.wait.length c1, I c.batch, I c.every, I c.now, Sl a2 c.heads.length c2, Sl a3 c.books.length c3])] ?_
      refine runL_callR 53 (copiedN_con G2 [I c.queue.most, Sl a1 c.queue.wait.length c1, I c.batch, I c.every, I c.now, Sl a2 c.heads.length c2, Sl a3 c.books.length c3] c (⟨a1, c1, a2, c2, a3, c3, rfl, w1, (hs1.mono (Mem.le_trans hl1 hl2)), w2, w3, w4, (hs2.mono (Mem.le_trans hl1 hl2)), (hs3.mono (Mem.le_trans hl1 hl2))⟩) (by first | assumption | omega | (simp; done) | (have q_ := ck_bd (by assumption); (try dsimp only); omega))) (fun v G3 L1 hl3 hp => ?_)
      obtain ⟨a5, c5, a6, c6, a7, rfl, w10, hs6, w11, w12, w13, hs7, hs8, rfl⟩ := hp
      refine runL_bsn [11] [] [[], [Sg b4 0 [I (((queuePut c.queue a).1).most), Sl a4 ((((queuePut c.queue a).1).wait).length) c4]], [Sg b3 0 [I 0, Sl none 0 0, I 0, I 0, I 0, Sl none 0 0, Sl none 0 0]], [Sg b2 0 [Sr a.name, Sr a.value, U a.n, U a.tag]], [Sg b1 0 [I c.queue.most, Sl a5 c.queue.wait.length c5, I c.batch, I c.every, I c.now, Sl a6 c.heads.length c6, Sl a7 c.books.length c.books.length]]] (runL_nil (tq_then ?_))
      refine tc_rbsn [4,0,11] [] [[], [Sg b4 0 [I (((queuePut c.queue a).1).most), Sl a4 ((((queuePut c.queue a).1).wait).length) c4]], [Sg b3 0 [I 0, Sl none 0 0, I 0, I 0, I 0, Sl none 0 0, Sl none 0 0]], [Sg b2 0 [Sr a.name, Sr a.value, U a.n, U a.tag]], [Sg b1 0 [I (((queuePut c.queue a).1).most), Sl a4 ((((queuePut c.queue a).1).wait).length) c4, I c.batch, I c.every, I c.now, Sl a6 c.heads.length c6, Sl a7 c.books.length c.books.length]]] (tc_seq (tc_region ?_))
      refine runL_bn [0,0,10,0,10] [(57, I ((queuePut c.queue a).2.1)), (59, I c.batch), (61, I c.every)] ?_
      refine runL_callV 62 (.tuple #[I ((queueWait ((queuePut c.queue a).2.1) c.batch c.every).1), I ((queueWait ((queuePut c.queue a).2.1) c.batch c.every).2)]) (queueWait_con G3 ((queuePut c.queue a).2.1) c.batch c.every) ?_
      refine runL_bn [0,0,0,0,0] [(11, I ((queueWait ((queuePut c.queue a).2.1) c.batch c.every).1))] (runL_nil (tq_then (tc_seq ?_)))
      have e1 : IntKind.i64.wrap (c.now - ((c.now).tmod c.every)) = c.now - ((c.now).tmod c.every) := IntWalk.i64_in _ (by first | omega | (have q_ := ck_bd (by assumption); have q10_ := tmod_bd (n := c.now) (e := c.every) (by omega) (by omega); have q11_ := qw_bd (queuePut c.queue a).2.1 c.batch c.every; omega))
      have e2 : IntKind.i64.wrap ((c.now - ((c.now).tmod c.every)) + ((queueWait ((queuePut c.queue a).2.1) c.batch c.every).1)) = (c.now - ((c.now).tmod c.every)) + ((queueWait ((queuePut c.queue a).2.1) c.batch c.every).1) := IntWalk.i64_in _ (by first | omega | (have q_ := ck_bd (by assumption); have q10_ := tmod_bd (n := c.now) (e := c.every) (by omega) (by omega); have q11_ := qw_bd (queuePut c.queue a).2.1 c.batch c.every; omega))
      refine tc_draw [11] ?_
      refine dr_V [(0, .agg #[I (((queuePut c.queue a).1).most), Sl a4 ((((queuePut c.queue a).1).wait).length) c4, I c.batch, I c.every, I c.now, Sl a6 c.heads.length c6, Sl a7 c.books.length c.books.length]), (1, Pt b1 4), (2, I c.now), (3, Pt b1 4), (4, I c.now), (5, Pt b1 3), (6, I c.every), (7, I ((c.now).tmod c.every)), (8, I (c.now - ((c.now).tmod c.every))), (9, I ((queueWait ((queuePut c.queue a).2.1) c.batch c.every).1)), (10, I ((c.now - ((c.now).tmod c.every)) + ((queueWait ((queuePut c.queue a).2.1) c.batch c.every).1)))] ?_
      refine dr_mid [] [(0,10), (1,0), (2,10), (3,0), (4,10), (5,0), (6,10), (9,0)] [7, 8, 10] [11] (fmc ?_ (fmc ?_ (fmc ?_ fm0))) (fmc ?_ fm0)
      ·
       refine stab_of 7 72 (I ((c.now).tmod c.every)) [(69, I c.now), (71, I c.every)] (fun X => ?_)
       exact runL_div (k := .i64) (x := c.now) (y := c.every) 72 false ((c.now).tmod c.every) (by first | omega | (have q_ := ck_bd (by assumption); have q10_ := tmod_bd (n := c.now) (e := c.every) (by omega) (by omega); have q11_ := qw_bd (queuePut c.queue a).2.1 c.batch c.every; omega)) rfl stab_end
      ·
       refine stab_of 8 73 (I (c.now - ((c.now).tmod c.every))) [(67, I c.now), (72, I ((c.now).tmod c.every))] (fun X => ?_)
       exact runL_p1 73 (I (IntKind.i64.wrap (c.now - ((c.now).tmod c.every)))) (I (c.now - ((c.now).tmod c.every))) (by simp only [e1]) stab_end
      ·
       refine stab_of 10 75 (I ((c.now - ((c.now).tmod c.every)) + ((queueWait ((queuePut c.queue a).2.1) c.batch c.every).1))) [(73, I (c.now - ((c.now).tmod c.every))), (74, I ((queueWait ((queuePut c.queue a).2.1) c.batch c.every).1))] (fun X => ?_)
       exact runL_p1 75 (I (IntKind.i64.wrap ((c.now - ((c.now).tmod c.every)) + ((queueWait ((queuePut c.queue a).2.1) c.batch c.every).1)))) (I ((c.now - ((c.now).tmod c.every)) + ((queueWait ((queuePut c.queue a).2.1) c.batch c.every).1))) (by simp only [e2]) stab_end
      refine act_of 11 [(4, Pt b3 0), (65, .agg #[I (((queuePut c.queue a).1).most), Sl a4 ((((queuePut c.queue a).1).wait).length) c4, I c.batch, I c.every, I c.now, Sl a6 c.heads.length c6, Sl a7 c.books.length c.books.length])] (fun X => ?_)
      refine runL_st 2 [[], [Sg b4 0 [I (((queuePut c.queue a).1).most), Sl a4 ((((queuePut c.queue a).1).wait).length) c4]], [Sg b3 0 [I (((queuePut c.queue a).1).most), Sl a4 ((((queuePut c.queue a).1).wait).length) c4, I c.batch, I c.every, I c.now, Sl a6 c.heads.length c6, Sl a7 c.books.length c.books.length]], [Sg b2 0 [Sr a.name, Sr a.value, U a.n, U a.tag]], [Sg b1 0 [I (((queuePut c.queue a).1).most), Sl a4 ((((queuePut c.queue a).1).wait).length) c4, I c.batch, I c.every, I c.now, Sl a6 c.heads.length c6, Sl a7 c.books.length c.books.length]]] ?_
      have e3 : IntKind.i64.wrap (c.now - ((c.now).tmod c.every)) = c.now - ((c.now).tmod c.every) := IntWalk.i64_in _ (by first | omega | (have q_ := ck_bd (by assumption); have q10_ := tmod_bd (n := c.now) (e := c.every) (by omega) (by omega); have q11_ := qw_bd (queuePut c.queue a).2.1 c.batch c.every; omega))
      have e4 : IntKind.i64.wrap ((c.now - ((c.now).tmod c.every)) + ((queueWait ((queuePut c.queue a).2.1) c.batch c.every).1)) = (c.now - ((c.now).tmod c.every)) + ((queueWait ((queuePut c.queue a).2.1) c.batch c.every).1) := IntWalk.i64_in _ (by first | omega | (have q_ := ck_bd (by assumption); have q10_ := tmod_bd (n := c.now) (e := c.every) (by omega) (by omega); have q11_ := qw_bd (queuePut c.queue a).2.1 c.batch c.every; omega))
      refine act_endN0 [(12, I ((c.now - ((c.now).tmod c.every)) + ((queueWait ((queuePut c.queue a).2.1) c.batch c.every).1))), (13, I 0)] ?_
      refine dr_end [0] [(1,0), (2,10), (3,0), (4,10), (5,0), (6,10), (9,0), (12,0), (13,0)] [7, 8, 10] [(4, Pt b3 0), (5, I ((c.now - ((c.now).tmod c.every)) + ((queueWait ((queuePut c.queue a).2.1) c.batch c.every).1))), (6, I 0)] (fmc ?_ (fmc ?_ (fmc ?_ fm0))) ?_
      ·
       refine stab_of 7 72 (I ((c.now).tmod c.every)) [(69, I c.now), (71, I c.every)] (fun X => ?_)
       exact runL_div (k := .i64) (x := c.now) (y := c.every) 72 false ((c.now).tmod c.every) (by first | omega | (have q_ := ck_bd (by assumption); have q10_ := tmod_bd (n := c.now) (e := c.every) (by omega) (by omega); have q11_ := qw_bd (queuePut c.queue a).2.1 c.batch c.every; omega)) rfl stab_end
      ·
       refine stab_of 8 73 (I (c.now - ((c.now).tmod c.every))) [(67, I c.now), (72, I ((c.now).tmod c.every))] (fun X => ?_)
       exact runL_p1 73 (I (IntKind.i64.wrap (c.now - ((c.now).tmod c.every)))) (I (c.now - ((c.now).tmod c.every))) (by simp only [e3]) stab_end
      ·
       refine stab_of 10 75 (I ((c.now - ((c.now).tmod c.every)) + ((queueWait ((queuePut c.queue a).2.1) c.batch c.every).1))) [(73, I (c.now - ((c.now).tmod c.every))), (74, I ((queueWait ((queuePut c.queue a).2.1) c.batch c.every).1))] (fun X => ?_)
       exact runL_p1 75 (I (IntKind.i64.wrap ((c.now - ((c.now).tmod c.every)) + ((queueWait ((queuePut c.queue a).2.1) c.batch c.every).1)))) (I ((c.now - ((c.now).tmod c.every)) + ((queueWait ((queuePut c.queue a).2.1) c.batch c.every).1))) (by simp only [e4]) stab_end
      refine tq_then (tc_ret ?_)
      have hf6 : clerkAsk c a = ((⟨((queuePut c.queue a).1), c.batch, c.every, c.now, c.heads, c.books⟩ : ClerkD), (c.now - ((c.now).tmod c.every)) + ((queueWait ((queuePut c.queue a).2.1) c.batch c.every).1), 0) := by
       unfold clerkAsk clerkZ; first | (rw [if_pos (by assumption)]; done) | (rw [if_neg (by simp_all)]; simp_all; done) | (rw [if_neg (by simp_all)]; simp_all; grind)
      refine tq_ret [2, 0, 0] [.agg #[I (((queuePut c.queue a).1).most), Sl a4 ((((queuePut c.queue a).1).wait).length) c4, I c.batch, I c.every, I c.now, Sl a6 c.heads.length c6, Sl a7 c.books.length c.books.length], I ((c.now - ((c.now).tmod c.every)) + ((queueWait ((queuePut c.queue a).2.1) c.batch c.every).1)), I 0] (bp_rowsA [] (Mem.le_trans (Mem.le_trans hl1 hl2) hl3) ?_)
      rw [hf6]
      try dsimp only
      exact ⟨a4, c4, a6, c6, a7, c.books.length, rfl, w9, ⟨(hs4.1.mono (Mem.le_trans hl2 hl3)), (Nw.base hs4.2 (Mem.le_refl _))⟩, w11, w12, w13, ⟨hs7.1, (Nw.base hs7.2 (Mem.le_trans hl1 hl2))⟩, ⟨(RS.bn hs8.1 (Mem.le_trans hl1 hl2)), (Nw.base hs8.2 (Mem.le_trans hl1 hl2))⟩, rfl⟩
theorem clerkTickN_con (G : Mem) (vs_c : List Value) (c : ClerkD) (h_c : EClerk.R G vs_c c)  : ConP 12 #[.agg vs_c.toArray] G [] (fun u G' L' => ∃ (a1 : Option Addr) (c2 : Nat) (a3 : Option Addr) (c4 : Nat) (a5 : Option Addr) (c6 : Nat), u = .tuple #[.agg #[I (((clerkTick c).1).queue.most), Sl a1 ((((clerkTick c).1).queue.wait).length) c2, I (((clerkTick c).1).batch), I (((clerkTick c).1).every), I (((clerkTick c).1).now), Sl a3 ((((clerkTick c).1).heads).length) c4, Sl a5 ((((clerkTick c).1).books).length) c6], Bo ((clerkTick c).2.1), I ((clerkTick c).2.2)] ∧ (-9223372036854775808 ≤ (((clerkTick c).1).queue.most) ∧ (((clerkTick c).1).queue.most) < 9223372036854775808) ∧ (RS EAsk G' a1 c2 (((clerkTick c).1).queue.wait) ∧ Nw G a1 ((((clerkTick c).1).queue.wait).length * EAsk.sz)) ∧ (-9223372036854775808 ≤ (((clerkTick c).1).batch) ∧ (((clerkTick c).1).batch) < 9223372036854775808) ∧ (-9223372036854775808 ≤ (((clerkTick c).1).every) ∧ (((clerkTick c).1).every) < 9223372036854775808) ∧ (-9223372036854775808 ≤ (((clerkTick c).1).now) ∧ (((clerkTick c).1).now) < 9223372036854775808) ∧ (RS EHead G' a3 c4 (((clerkTick c).1).heads) ∧ Nw G a3 ((((clerkTick c).1).heads).length * EHead.sz)) ∧ (RS (EBookN G) G' a5 c6 (((clerkTick c).1).books) ∧ Nw G a5 ((((clerkTick c).1).books).length * (EBookN G).sz)) ∧ L' = []) := by
 obtain ⟨a1, c1, a2, c2, a3, c3, rfl, w1, hs1, w2, w3, w4, hs2, hs3⟩ := h_c
 refine con_of Tryz.func12 88 [(0, .agg #[I c.queue.most, Sl a1 c.queue.wait.length c1, I c.batch, I c.every, I c.now, Sl a2 c.heads.length c2, Sl a3 c.books.length c3])] rfl (fun w0 G0 => ?_)
 refine tc_seq (tc_region ?_)
 refine runL_box 1 #[I c.queue.most, Sl a1 c.queue.wait.length c1, I c.batch, I c.every, I c.now, Sl a2 c.heads.length c2, Sl a3 c.books.length c3] 45 (fun b1 => ?_)
 refine runL_box 2 #[I 0, Sl none 0 0, I 0, I 0, I 0, Sl none 0 0, Sl none 0 0] 45 (fun b2 => ?_)
 refine runL_bn [0,0] [] (runL_nil (tq_then (tc_seq (tc_seq (tc_region ?_)))))
 refine runL_bn [4] [(14, .agg #[I c.queue.most, Sl a1 c.queue.wait.length c1, I c.batch, I c.every, I c.now, Sl a2 c.heads.length c2, Sl a3 c.books.length c3])] ?_
 refine runL_callV 15 (I (clerkCheck c)) (clerkCheck_con G [I c.queue.most, Sl a1 c.queue.wait.length c1, I c.batch, I c.every, I c.now, Sl a2 c.heads.length c2, Sl a3 c.books.length c3] c (⟨a1, c1, a2, c2, a3, c3, rfl, w1, hs1, w2, w3, w4, hs2, hs3⟩)) ?_
 refine runL_bn [0] [(5, I (clerkCheck c))] (runL_nil (tq_then ?_))
 refine tc_rbn [0,0] [(17, Bo (!decide (clerkCheck c = 0)))] ?_
 refine tc_condP (!decide (clerkCheck c = 0)) (fun h1 => ?_) (fun h1 => ?_)
 ·
  refine tc_rbn [0,0,3,0,0] [(3, Bo false), (4, I (clerkCheck c))] (tc_ret (tq_then_ret ?_))
  have hf1 : clerkTick c = ((⟨(⟨0, []⟩ : QueueD), 0, 0, 0, [], []⟩ : ClerkD), false, clerkCheck c) := by
   unfold clerkTick clerkZ; first | (rw [if_pos (by assumption)]; done) | (rw [if_neg (by simp_all)]; first | (rw [if_pos (by assumption)]; done) | (rw [if_neg (by simp_all)]; first | (rw [if_pos (by assumption)]; done) | (rw [if_neg (by simp_all)]; have e_ : xw = tickBook c := (by rw [hxw.1, List.take_of_length_le (by omega)]; rfl); rw [← e_])))
  refine tq_ret [0, 0, 0] [.agg #[I 0, Sl none 0 0, I 0, I 0, I 0, Sl none 0 0, Sl none 0 0], Bo false, I (clerkCheck c)] (bp_rowsA [] (Mem.le_refl _) ?_)
  rw [hf1]
  try dsimp only
  exact ⟨none, 0, none, 0, none, 0, rfl, (by first | (first | assumption | omega | (have q_ := ck_bd (by assumption); omega) | (simp; done) | (simp; omega)) | (dsimp only; first | assumption | omega | (have q_ := ck_bd (by assumption); omega) | (simp; done) | (simp; omega))), ⟨(RS.nil' EAsk G), (Nw.none _ _)⟩, (by first | (first | assumption | omega | (have q_ := ck_bd (by assumption); omega) | (simp; done) | (simp; omega)) | (dsimp only; first | assumption | omega | (have q_ := ck_bd (by assumption); omega) | (simp; done) | (simp; omega))), (by first | (first | assumption | omega | (have q_ := ck_bd (by assumption); omega) | (simp; done) | (simp; omega)) | (dsimp only; first | assumption | omega | (have q_ := ck_bd (by assumption); omega) | (simp; done) | (simp; omega))), (by first | (first | assumption | omega | (have q_ := ck_bd (by assumption); omega) | (simp; done) | (simp; omega)) | (dsimp only; first | assumption | omega | (have q_ := ck_bd (by assumption); omega) | (simp; done) | (simp; omega))), ⟨(RS.nil' EHead G), (Nw.none _ _)⟩, ⟨(RS.nil' (EBookN G) G), (Nw.none _ _)⟩, rfl⟩
 ·
  refine tc_skip (tq_then (tc_seq (tc_region ?_)))
  refine runL_bn [4] [(20, .agg #[I c.queue.most, Sl a1 c.queue.wait.length c1, I c.batch, I c.every, I c.now, Sl a2 c.heads.length c2, Sl a3 c.books.length c3])] ?_
  refine runL_callR 21 (copiedN_con G [I c.queue.most, Sl a1 c.queue.wait.length c1, I c.batch, I c.every, I c.now, Sl a2 c.heads.length c2, Sl a3 c.books.length c3] c (⟨a1, c1, a2, c2, a3, c3, rfl, w1, hs1, w2, w3, w4, hs2, hs3⟩) (by first | assumption | omega | (simp; done) | (have q_ := ck_bd (by assumption); (try dsimp only); omega))) (fun v G1 L1 hl1 hp => ?_)
  obtain ⟨a4, c4, a5, c5, a6, rfl, w5, hs4, w6, w7, w8, hs5, hs6, rfl⟩ := hp
  refine runL_bsn [5] [] [[Sg b2 0 [I 0, Sl none 0 0, I 0, I 0, I 0, Sl none 0 0, Sl none 0 0]], [Sg b1 0 [I c.queue.most, Sl a4 c.queue.wait.length c4, I c.batch, I c.every, I c.now, Sl a5 c.heads.length c5, Sl a6 c.books.length c.books.length]]] (runL_nil (tq_then (tc_seq (tc_seq (tc_region ?_)))))
  refine runL_bn [4] [(22, .agg #[I c.queue.most, Sl a4 c.queue.wait.length c4, I c.batch, I c.every, I c.now, Sl a5 c.heads.length c5, Sl a6 c.books.length c.books.length])] ?_
  refine runL_callV 23 (Bo (closedB c)) (closedB_con G1 [I c.queue.most, Sl a4 c.queue.wait.length c4, I c.batch, I c.every, I c.now, Sl a5 c.heads.length c5, Sl a6 c.books.length c.books.length] c (⟨a4, c4, a5, c5, a6, c.books.length, rfl, w5, hs4.1, w6, w7, w8, hs5.1, (RS.unN (RS.bn hs6.1 (Mem.le_refl _)))⟩)) ?_
  refine runL_nil (tq_then ?_)
  refine tc_condP (closedB c) (fun h2 => ?_) (fun h2 => ?_)
  ·
   refine tc_rbsn [4,3,0,0] [(3, Bo false), (4, I 0)] [[Sg b2 0 [I c.queue.most, Sl a4 c.queue.wait.length c4, I c.batch, I c.every, I c.now, Sl a5 c.heads.length c5, Sl a6 c.books.length c.books.length]], [Sg b1 0 [I c.queue.most, Sl a4 c.queue.wait.length c4, I c.batch, I c.every, I c.now, Sl a5 c.heads.length c5, Sl a6 c.books.length c.books.length]]] (tc_ret (tq_then_ret ?_))
   have hf2 : clerkTick c = (c, false, 0) := by
    unfold clerkTick clerkZ; first | (rw [if_pos (by assumption)]; done) | (rw [if_neg (by simp_all)]; first | (rw [if_pos (by assumption)]; done) | (rw [if_neg (by simp_all)]; first | (rw [if_pos (by assumption)]; done) | (rw [if_neg (by simp_all)]; have e_ : xw = tickBook c := (by rw [hxw.1, List.take_of_length_le (by omega)]; rfl); rw [← e_])))
   refine tq_ret [0, 0, 0] [.agg #[I c.queue.most, Sl a4 c.queue.wait.length c4, I c.batch, I c.every, I c.now, Sl a5 c.heads.length c5, Sl a6 c.books.length c.books.length], Bo false, I 0] (bp_rowsA [] hl1 ?_)
   rw [hf2]
   try dsimp only
   exact ⟨a4, c4, a5, c5, a6, c.books.length, rfl, w5, ⟨hs4.1, (Nw.base hs4.2 (Mem.le_refl _))⟩, w6, w7, w8, ⟨hs5.1, (Nw.base hs5.2 (Mem.le_refl _))⟩, ⟨(RS.bn hs6.1 (Mem.le_refl _)), (Nw.base hs6.2 (Mem.le_refl _))⟩, rfl⟩
  ·
   refine tc_skip (tq_then ?_)
   refine tc_rbsn [0,4,0,0,5] [] [[Sg b2 0 [I 0, Sl none 0 0, I 0, I 0, I 0, Sl none 0 0, Sl none 0 0]], [Sg b1 0 [I c.queue.most, Sl a4 c.queue.wait.length c4, I c.batch, I c.every, I (IntKind.i64.wrap (c.now + 1)), Sl a5 c.heads.length c5, Sl a6 c.books.length c.books.length]]] ?_
   have e1 : IntKind.i64.wrap (c.now + 1) = c.now + 1 := IntWalk.i64_in _ (by first | omega | (have q_ := ck_bd (by assumption); have q10_ := tmod_bd (n := c.now + 1) (e := c.every) (by omega) (by omega); omega))
   refine tc_eqL (L' := [[Sg b2 0 [I 0, Sl none 0 0, I 0, I 0, I 0, Sl none 0 0, Sl none 0 0]], [Sg b1 0 [I c.queue.most, Sl a4 c.queue.wait.length c4, I c.batch, I c.every, I (c.now + 1), Sl a5 c.heads.length c5, Sl a6 c.books.length c.books.length]]]) (by simp only [e1]) ?_
   clear e1
   refine tc_seq (tc_seq (tc_region ?_))
   refine runL_bn [0,4,0,4] [(30, I (c.now + 1)), (32, I c.every)] ?_
   refine runL_div (k := .i64) (x := c.now + 1) (y := c.every) 33 false ((c.now + 1).tmod c.every) (by first | omega | (have q_ := ck_bd (by assumption); have q10_ := tmod_bd (n := c.now + 1) (e := c.every) (by omega) (by omega); omega)) rfl ?_
   refine runL_bn [0] [(34, Bo (!decide ((c.now + 1).tmod c.every = 0)))] (runL_nil (tq_then ?_))
   refine tc_condP (!decide ((c.now + 1).tmod c.every = 0)) (fun h3 => ?_) (fun h3 => ?_)
   ·
    refine tc_rbsn [4,3,0,0] [(3, Bo false), (4, I 0)] [[Sg b2 0 [I c.queue.most, Sl a4 c.queue.wait.length c4, I c.batch, I c.every, I (c.now + 1), Sl a5 c.heads.length c5, Sl a6 c.books.length c.books.length]], [Sg b1 0 [I c.queue.most, Sl a4 c.queue.wait.length c4, I c.batch, I c.every, I (c.now + 1), Sl a5 c.heads.length c5, Sl a6 c.books.length c.books.length]]] (tc_ret (tq_then_ret ?_))
    have hf3 : clerkTick c = ((⟨c.queue, c.batch, c.every, c.now + 1, c.heads, c.books⟩ : ClerkD), false, 0) := by
     unfold clerkTick clerkZ; first | (rw [if_pos (by assumption)]; done) | (rw [if_neg (by simp_all)]; first | (rw [if_pos (by assumption)]; done) | (rw [if_neg (by simp_all)]; first | (rw [if_pos (by assumption)]; done) | (rw [if_neg (by simp_all)]; have e_ : xw = tickBook c := (by rw [hxw.1, List.take_of_length_le (by omega)]; rfl); rw [← e_])))
    refine tq_ret [0, 0, 0] [.agg #[I c.queue.most, Sl a4 c.queue.wait.length c4, I c.batch, I c.every, I (c.now + 1), Sl a5 c.heads.length c5, Sl a6 c.books.length c.books.length], Bo false, I 0] (bp_rowsA [] hl1 ?_)
    rw [hf3]
    try dsimp only
    exact ⟨a4, c4, a5, c5, a6, c.books.length, rfl, (by first | (first | assumption | omega | (have q_ := ck_bd (by assumption); omega) | (simp; done) | (simp; omega)) | (dsimp only; first | assumption | omega | (have q_ := ck_bd (by assumption); omega) | (simp; done) | (simp; omega))), ⟨hs4.1, (Nw.base hs4.2 (Mem.le_refl _))⟩, (by first | (first | assumption | omega | (have q_ := ck_bd (by assumption); omega) | (simp; done) | (simp; omega)) | (dsimp only; first | assumption | omega | (have q_ := ck_bd (by assumption); omega) | (simp; done) | (simp; omega))), (by first | (first | assumption | omega | (have q_ := ck_bd (by assumption); omega) | (simp; done) | (simp; omega)) | (dsimp only; first | assumption | omega | (have q_ := ck_bd (by assumption); omega) | (simp; done) | (simp; omega))), (by have q_ := ck_bd (by assumption); (try dsimp only); omega), ⟨hs5.1, (Nw.base hs5.2 (Mem.le_refl _))⟩, ⟨(RS.bn hs6.1 (Mem.le_refl _)), (Nw.base hs6.2 (Mem.le_refl _))⟩, rfl⟩
   ·
    refine tc_skip (tq_then (tc_seq (tc_region ?_)))
    refine runL_bn [0,4,0,4] [(38, .agg #[I c.queue.most, Sl a4 c.queue.wait.length c4]), (40, I c.batch)] ?_
    refine runL_callR 41 (queueTakeN_con G1 [I c.queue.most, Sl a4 c.queue.wait.length c4] c.queue (⟨a4, c4, rfl, (by first | (first | assumption | omega | (have q_ := ck_bd (by assumption); omega) | (simp; done) | (simp; omega)) | (dsimp only; first | assumption | omega | (have q_ := ck_bd (by assumption); omega) | (simp; done) | (simp; omega))), hs4.1⟩) c.batch) (fun v G2 L1 hl2 hp => ?_)
    obtain ⟨a7, c6, a8, c7, rfl, w9, hs7, hs8, rfl⟩ := hp
    refine runL_bn [0,0,0,0] [(42, .agg #[I (((queueTake c.queue c.batch).1).most), Sl a7 ((((queueTake c.queue c.batch).1).wait).length) c6]), (43, Sl a8 (((queueTake c.queue c.batch).2.1).length) c7), (44, I ((queueTake c.queue c.batch).2.2))] ?_
    refine runL_box 6 #[I 0, Sl none 0 0] 41 (fun b3 => ?_)
    refine runL_bsn [3,0,0] [(7, Sl a8 (((queueTake c.queue c.batch).2.1).length) c7)] [[Sg b3 0 [I (((queueTake c.queue c.batch).1).most), Sl a7 ((((queueTake c.queue c.batch).1).wait).length) c6]], [Sg b2 0 [I 0, Sl none 0 0, I 0, I 0, I 0, Sl none 0 0, Sl none 0 0]], [Sg b1 0 [I c.queue.most, Sl a4 c.queue.wait.length c4, I c.batch, I c.every, I (c.now + 1), Sl a5 c.heads.length c5, Sl a6 c.books.length c.books.length]]] (runL_nil (tq_then (tc_seq (tc_region ?_))))
    refine runL_bn [6] [(45, .agg #[I c.queue.most, Sl a4 c.queue.wait.length c4, I c.batch, I c.every, I (c.now + 1), Sl a5 c.heads.length c5, Sl a6 c.books.length c.books.length])] ?_
    refine runL_callR 46 (lastBk_con G2 [I c.queue.most, Sl a4 c.queue.wait.length c4, I c.batch, I c.every, I (c.now + 1), Sl a5 c.heads.length c5, Sl a6 c.books.length c.books.length] (⟨c.queue, c.batch, c.every, c.now + 1, c.heads, c.books⟩ : ClerkD) (⟨a4, c4, a5, c5, a6, c.books.length, rfl, (by first | (first | assumption | omega | (have q_ := ck_bd (by assumption); omega) | (simp; done) | (simp; omega)) | (dsimp only; first | assumption | omega | (have q_ := ck_bd (by assumption); omega) | (simp; done) | (simp; omega))), (hs4.1.mono hl2), (by first | (first | assumption | omega | (have q_ := ck_bd (by assumption); omega) | (simp; done) | (simp; omega)) | (dsimp only; first | assumption | omega | (have q_ := ck_bd (by assumption); omega) | (simp; done) | (simp; omega))), (by first | (first | assumption | omega | (have q_ := ck_bd (by assumption); omega) | (simp; done) | (simp; omega)) | (dsimp only; first | assumption | omega | (have q_ := ck_bd (by assumption); omega) | (simp; done) | (simp; omega))), (by have q_ := ck_bd (by assumption); (try dsimp only); omega), (hs5.1.mono hl2), (RS.unN ((RS.bn hs6.1 (Mem.le_refl _)).mono hl2))⟩) (by first | assumption | omega | (simp; done) | (have q_ := ck_bd (by assumption); (try dsimp only); omega)) (by first | assumption | omega | (simp; done) | (have q_ := ck_bd (by assumption); (try dsimp only); omega))) (fun v G3 L1 hl3 hp => ?_)
    obtain ⟨a9, c8, rfl, hs9, rfl⟩ := hp
    refine runL_callR 47 (sclone_EEnt G3 a9 c8 (lastB (⟨c.queue, c.batch, c.every, c.now + 1, c.heads, c.books⟩ : ClerkD).books) hs9) (fun v G4 L1 hl4 hp => ?_)
    obtain ⟨a10, c9, r1, rfl, hr1, rfl⟩ := hp
    refine runL_bn [0] [(9, Sl a10 ((lastB (⟨c.queue, c.batch, c.every, c.now + 1, c.heads, c.books⟩ : ClerkD).books).length) c9)] (runL_nil (tq_then (tc_seq ?_)))
    refine tc_rbn [0,0,0] [(48, Sl a8 (((queueTake c.queue c.batch).2.1).length) c7), (49, I (((queueTake c.queue c.batch).2.1).length : Int)), (50, I 0)] (tc_block ?_)
    have hlm_hs8 : ((queueTake c.queue c.batch).2.1).length ≤ 9223372036854775807 := Nat.le_trans (hs8).le (hs8).max
    refine tc_loop (σ := Nat × Option Addr × Nat × List Seg × List EntD × Mem) (fun q_ => (Mem.le G4 q_.2.2.2.2.2) ∧ (q_.1 ≤ ((queueTake c.queue c.batch).2.1).length) ∧ (TRow EEnt q_.2.2.2.2.2 q_.2.1 q_.2.2.1 q_.2.2.2.2.1 q_.2.2.2.1) ∧ (q_.2.2.2.2.1 = setAll (lastB c.books) ((queueTake c.queue c.batch).2.1.take q_.1) ∧ q_.2.2.2.2.1.length ≤ 1000)) (fun q_ => [(1, Pt b1 0), (2, Pt b2 0), (6, Pt b3 0), (9, Sl q_.2.1 q_.2.2.2.2.1.length q_.2.2.1), (48, Sl a8 (((queueTake c.queue c.batch).2.1).length) c7), (49, I (((queueTake c.queue c.batch).2.1).length : Int)), (50, I (q_.1 : Int))]) (fun q_ => q_.2.2.2.2.2) (fun q_ => [q_.2.2.2.1, [Sg b3 0 [I (((queueTake c.queue c.batch).1).most), Sl a7 ((((queueTake c.queue c.batch).1).wait).length) c6]], [Sg b2 0 [I 0, Sl none 0 0, I 0, I 0, I 0, Sl none 0 0, Sl none 0 0]], [Sg b1 0 [I c.queue.most, Sl a4 c.queue.wait.length c4, I c.batch, I c.every, I (c.now + 1), Sl a5 c.heads.length c5, Sl a6 c.books.length c.books.length]]]) (fun q_ => ((queueTake c.queue c.batch).2.1).length - q_.1) (0, a10, c9, r1, lastB (⟨c.queue, c.batch, c.every, c.now + 1, c.heads, c.books⟩ : ClerkD).books, G4) ⟨(Mem.le_refl _), (by (try dsimp only); first | exact Nat.zero_le _ | omega | simp), hr1, ⟨rfl, by have q_ := ck_bd (by assumption); (try dsimp only); omega⟩⟩ (fun q_ hs => ?_)
    obtain ⟨i, aw, cw, rw, xw, g⟩ := q_
    obtain ⟨hle, hi, hrw, hxw⟩ := hs
    dsimp only at hle hi hrw hxw
    refine tc_eq (fr' := [(1, Pt b1 0), (2, Pt b2 0), (6, Pt b3 0), (9, Sl aw xw.length cw), (48, Sl a8 (((queueTake c.queue c.batch).2.1).length) c7), (49, I (((queueTake c.queue c.batch).2.1).length : Int)), (50, I (i : Int))]) (L' := [rw, [Sg b3 0 [I (((queueTake c.queue c.batch).1).most), Sl a7 ((((queueTake c.queue c.batch).1).wait).length) c6]], [Sg b2 0 [I 0, Sl none 0 0, I 0, I 0, I 0, Sl none 0 0, Sl none 0 0]], [Sg b1 0 [I c.queue.most, Sl a4 c.queue.wait.length c4, I c.batch, I c.every, I (c.now + 1), Sl a5 c.heads.length c5, Sl a6 c.books.length c.books.length]]]) rfl rfl ?_
    refine tc_rbn [0] [(51, Bo (decide ((i : Int) < (((queueTake c.queue c.batch).2.1).length : Int))))] (tc_seq ?_)
    refine tc_condP (decide ((i : Int) < (((queueTake c.queue c.batch).2.1).length : Int))) (fun h4 => ?_) (fun h4 => ?_)
    ·
     refine tc_skip (tq_then (tc_seq (tc_block (tc_seq (tc_region ?_)))))
     obtain ⟨b4, o1, rfl⟩ := RS.addr (hs8.mono (Mem.le_trans (Mem.le_trans hl3 hl4) hle)) (k := i) (by first | omega | (have q_ := ck_bd (by assumption); have q10_ := tmod_bd (n := c.now + 1) (e := c.every) (by omega) (by omega); omega))
     obtain ⟨x1, hx1⟩ := getX (l := (queueTake c.queue c.batch).2.1) (k := i) (by first | omega | (have q_ := ck_bd (by assumption); have q10_ := tmod_bd (n := c.now + 1) (e := c.every) (by omega) (by omega); omega))
     obtain ⟨_, ⟨rfl, w10, w11, w12, w13⟩, hc1⟩ := RS.get (hs8.mono (Mem.le_trans (Mem.le_trans hl3 hl4) hle)) hx1
     refine runL_idx (b := b4) (off := o1) (len := ((queueTake c.queue c.batch).2.1).length) (cap := c7) (ik := .i64) 52 47 4 i (by first | omega | (have q_ := ck_bd (by assumption); have q10_ := tmod_bd (n := c.now + 1) (e := c.every) (by omega) (by omega); omega)) ?_
     refine runL_ldG 53 47 (cs := [Sr x1.name, Sr x1.value, U x1.n, U x1.tag]) 0 (.agg #[Sr x1.name, Sr x1.value, U x1.n, U x1.tag]) hc1 ?_
     refine runL_box 11 #[Sr ([]), Sr ([]), U 0, U 0] 47 (fun b5 => ?_)
     refine runL_bsn [3] [] [[Sg b5 0 [Sr x1.name, Sr x1.value, U x1.n, U x1.tag]], rw, [Sg b3 0 [I (((queueTake c.queue c.batch).1).most), Sl a7 ((((queueTake c.queue c.batch).1).wait).length) c6]], [Sg b2 0 [I 0, Sl none 0 0, I 0, I 0, I 0, Sl none 0 0, Sl none 0 0]], [Sg b1 0 [I c.queue.most, Sl a4 c.queue.wait.length c4, I c.batch, I c.every, I (c.now + 1), Sl a5 c.heads.length c5, Sl a6 c.books.length c.books.length]]] (runL_nil (tq_then (tc_region ?_)))
     refine runL_bn [0,0,2,0,2] [(55, Sl aw xw.length cw), (57, Sr x1.name), (59, Sr x1.value)] ?_
     refine runL_know (fun w_ h_ => TRow.out hrw h_ (i := 1) rfl) (fun ho1 => ?_)
     refine runL_frzR (E := EEnt) 1 hrw (by first | (have q0_ := hxw.2; simp only [EEnt]; omega) | (have q_ := ck_bd (by assumption); simp only [EBookN, List.length_append, List.length_cons, List.length_nil]; omega) | (have q_ := ck_bd (by assumption); (try simp only [List.length_append, List.length_cons, List.length_nil]); omega)) (fun G5 hl5 hs10 => ?_)
     refine runL_callR 60 (treeSet_con G5 aw cw xw hs10 x1.name w10 x1.value w11) (fun v G6 L1 hl6 hp => ?_)
     obtain ⟨a11, c10, r2, rfl, hr2, rfl⟩ := hp
     refine runL_bn [0,0,0,0] [(9, Sl a11 (((treeSet xw x1.name x1.value).1).length) c10)] (runL_nil (tq_block (tq_then (tc_region ?_))))
     refine runL_bn [0,0] [(50, I (IntKind.i64.wrap ((i : Int) + 1)))] ?_
     refine runL_wi64 50 ((i : Int) + 1) (by first | omega | (have q_ := ck_bd (by assumption); have q10_ := tmod_bd (n := c.now + 1) (e := c.every) (by omega) (by omega); omega)) ?_
     refine runL_nil ?_
     refine tq_front 0 ?_
     refine tq_front 1 ?_
     refine tq_front 2 ?_
     refine tq_ownsA [r2, [Sg b3 0 [I (((queueTake c.queue c.batch).1).most), Sl a7 ((((queueTake c.queue c.batch).1).wait).length) c6]], [Sg b2 0 [I 0, Sl none 0 0, I 0, I 0, I 0, Sl none 0 0, Sl none 0 0]], [Sg b1 0 [I c.queue.most, Sl a4 c.queue.wait.length c4, I c.batch, I c.every, I (c.now + 1), Sl a5 c.heads.length c5, Sl a6 c.books.length c.books.length]]] ?_
     exact tq_rnd (i + 1, a11, c10, r2, (treeSet xw x1.name x1.value).1, G6) ⟨(Mem.le_trans hle (Mem.le_trans hl5 hl6)), (by omega), hr2, ⟨by rw [hxw.1]; exact setAll_next hx1, Nat.le_trans (treeSet_len _ _ _) (by decide)⟩⟩ (by (try dsimp only); omega)
    ·
     refine tc_exit (tq_then_exit (tq_rnd_exit (tq_block_here (tq_then (tc_seq (tc_region ?_))))))
     refine runL_bn [0] [(65, Sl aw xw.length cw)] ?_
     refine runL_know (fun w_ h_ => TRow.out hrw h_ (i := 0) rfl) (fun ho2 => ?_)
     refine runL_frzR (E := EEnt) 0 hrw (by first | (have q0_ := hxw.2; simp only [EEnt]; omega) | (have q_ := ck_bd (by assumption); simp only [EBookN, List.length_append, List.length_cons, List.length_nil]; omega) | (have q_ := ck_bd (by assumption); (try simp only [List.length_append, List.length_cons, List.length_nil]); omega)) (fun G7 hl7 hs11 => ?_)
     refine runL_callV 66 (.tuple #[U ((treeAtE xw []).1), I ((treeAtE xw []).2)]) (treeRoot_con G7 aw cw xw hs11) ?_
     refine runL_bn [0,0,0,0,0] [(12, U ((treeAtE xw []).1))] (runL_nil (tq_then (tc_seq ?_)))
     refine tc_draw [4, 5, 7, 9] ?_
     refine dr_V [(0, .agg #[I (((queueTake c.queue c.batch).1).most), Sl a7 ((((queueTake c.queue c.batch).1).wait).length) c6]), (1, Pt b1 6), (2, Sl a6 c.books.length c.books.length), (3, Sl aw xw.length cw), (6, Pt b1 0)] ?_
     refine dr_mid [] [(0,4), (1,0), (2,8), (3,0), (6,0)] [] [4] (List.forall_mem_nil _) (fmc ?_ fm0)
     refine act_of 4 [(72, Sl aw xw.length cw)] (fun X => ?_)
     refine runL_bsl 73 1 #[Sl aw xw.length cw] 25 (fun b6 => ?_)
     refine act_endN [(4, Sl (At b6 0) 1 1)] ?_
     refine dr_mid [3] [(0,6), (1,0), (2,10), (6,0)] [] [5] (List.forall_mem_nil _) (fmc ?_ fm0)
     refine act_of 5 [(71, Sl a6 c.books.length c.books.length), (73, Sl (At b6 0) 1 1)] (fun X => ?_)
     refine runL_appF1 (E := (EBookN G)) (b := b6) (cs := [Sl aw xw.length cw]) 74 25 0 xw ((RS.bn hs6.1 (Mem.le_refl _)).mono (Mem.le_trans (Mem.le_trans (Mem.le_trans (Mem.le_trans hl2 hl3) hl4) hle) hl7)) (⟨aw, cw, rfl, hs11, (Nw.base ho2 (Mem.le_trans (Mem.le_trans (Mem.le_trans (Mem.le_trans hl1 hl2) hl3) hl4) hle))⟩) (by first | (have q0_ := hxw.2; simp only [EEnt]; omega) | (have q_ := ck_bd (by assumption); simp only [EBookN, List.length_append, List.length_cons, List.length_nil]; omega) | (have q_ := ck_bd (by assumption); (try simp only [List.length_append, List.length_cons, List.length_nil]); omega)) (by first | (have q0_ := hxw.2; simp only [EEnt]; omega) | (have q_ := ck_bd (by assumption); simp only [EBookN, List.length_append, List.length_cons, List.length_nil]; omega) | (have q_ := ck_bd (by assumption); (try simp only [List.length_append, List.length_cons, List.length_nil]); omega)) (fun a12 c11 r3 hr3 => ?_)
     refine act_endN [(5, Sl a12 ((c.books ++ [xw]).length) c11)] ?_
     refine dr_mid [1, 2, 3] [(0,8), (6,0)] [] [7] (List.forall_mem_nil _) (fmc ?_ fm0)
     refine act_of 7 [(69, .agg #[I (((queueTake c.queue c.batch).1).most), Sl a7 ((((queueTake c.queue c.batch).1).wait).length) c6]), (75, Pt b1 0)] (fun X => ?_)
     refine runL_st 5 [r3, [Sg b6 0 [Sl aw xw.length cw]], [], [Sg b3 0 [I (((queueTake c.queue c.batch).1).most), Sl a7 ((((queueTake c.queue c.batch).1).wait).length) c6]], [Sg b2 0 [I 0, Sl none 0 0, I 0, I 0, I 0, Sl none 0 0, Sl none 0 0]], [Sg b1 0 [I (((queueTake c.queue c.batch).1).most), Sl a7 ((((queueTake c.queue c.batch).1).wait).length) c6, I c.batch, I c.every, I (c.now + 1), Sl a5 c.heads.length c5, Sl a6 c.books.length c.books.length]]] ?_
     refine act_endN0 [(8, Pt b1 6)] ?_
     refine dr_mid [0, 1, 2, 3, 6] [(8,0)] [] [9] (List.forall_mem_nil _) (fmc ?_ fm0)
     refine act_of 9 [(74, Sl a12 ((c.books ++ [xw]).length) c11), (76, Pt b1 6)] (fun X => ?_)
     refine runL_st 5 [r3, [Sg b6 0 [Sl aw xw.length cw]], [], [Sg b3 0 [I (((queueTake c.queue c.batch).1).most), Sl a7 ((((queueTake c.queue c.batch).1).wait).length) c6]], [Sg b2 0 [I 0, Sl none 0 0, I 0, I 0, I 0, Sl none 0 0, Sl none 0 0]], [Sg b1 0 [I (((queueTake c.queue c.batch).1).most), Sl a7 ((((queueTake c.queue c.batch).1).wait).length) c6, I c.batch, I c.every, I (c.now + 1), Sl a5 c.heads.length c5, Sl a12 ((c.books ++ [xw]).length) c11]]] ?_
     refine act_endN0 [] ?_
     refine dr_end [0, 1, 2, 3, 6, 8] [] [] [(1, Pt b1 0), (2, Pt b2 0), (12, U ((treeAtE xw []).1))] (List.forall_mem_nil _) ?_
     refine tq_then (tc_seq (tc_region ?_))
     refine runL_bn [0,12,0,0,12] [(79, Sl a5 c.heads.length c5), (80, U ((treeAtE xw []).1)), (82, I (c.now + 1))] ?_
     refine runL_callR 83 (chainGrow_con G7 a5 c5 c.heads (hs5.1.mono (Mem.le_trans (Mem.le_trans (Mem.le_trans (Mem.le_trans hl2 hl3) hl4) hle) hl7)) ((treeAtE xw []).1) (treeAtE_bd _ _) (c.now + 1) (by have q_ := ck_bd (by assumption); (try dsimp only); omega)) (fun v G8 L1 hl8 hp => ?_)
     obtain ⟨a13, c12, r4, rfl, hr4, rfl⟩ := hp
     refine runL_bsn [0,0,0,0,15] [] [r4, r3, [Sg b6 0 [Sl aw xw.length cw]], [], [Sg b3 0 [I (((queueTake c.queue c.batch).1).most), Sl a7 ((((queueTake c.queue c.batch).1).wait).length) c6]], [Sg b2 0 [I 0, Sl none 0 0, I 0, I 0, I 0, Sl none 0 0, Sl none 0 0]], [Sg b1 0 [I (((queueTake c.queue c.batch).1).most), Sl a7 ((((queueTake c.queue c.batch).1).wait).length) c6, I c.batch, I c.every, I (c.now + 1), Sl a13 (((chainGrow c.heads ((treeAtE xw []).1) (c.now + 1)).1).length) c12, Sl a12 ((c.books ++ [xw]).length) c11]]] (runL_nil (tq_then ?_))
     refine tc_rbsn [14,13,0,0] [(3, Bo true), (4, I 0)] [r4, r3, [Sg b6 0 [Sl aw xw.length cw]], [], [Sg b3 0 [I (((queueTake c.queue c.batch).1).most), Sl a7 ((((queueTake c.queue c.batch).1).wait).length) c6]], [Sg b2 0 [I (((queueTake c.queue c.batch).1).most), Sl a7 ((((queueTake c.queue c.batch).1).wait).length) c6, I c.batch, I c.every, I (c.now + 1), Sl a13 (((chainGrow c.heads ((treeAtE xw []).1) (c.now + 1)).1).length) c12, Sl a12 ((c.books ++ [xw]).length) c11]], [Sg b1 0 [I (((queueTake c.queue c.batch).1).most), Sl a7 ((((queueTake c.queue c.batch).1).wait).length) c6, I c.batch, I c.every, I (c.now + 1), Sl a13 (((chainGrow c.heads ((treeAtE xw []).1) (c.now + 1)).1).length) c12, Sl a12 ((c.books ++ [xw]).length) c11]]] (tc_ret ?_)
     refine tq_know (fun w_ h_ => TRow.out hr4 h_ (i := 0) rfl) (fun ho3 => ?_)
     refine tq_frzR (E := EHead) 0 hr4 (by first | (have q_ := chainGrow_ok (l := c.heads) (r := ((treeAtE xw []).1)) (t := (c.now + 1)) (by assumption); have q1_ := q_.2.1; rw [q_.2.2.2]; simp only [EHead, List.length_append, List.length_cons, List.length_nil]; omega) | (have q_ := chainGrow_len c.heads ((treeAtE xw []).1) (c.now + 1); simp only [EHead]; omega)) (fun G9 hl9 hs12 => ?_)
     refine tq_know (fun w_ h_ => TRow.out (hr3.mono (Mem.le_trans hl8 hl9)) h_ (i := 1) rfl) (fun ho4 => ?_)
     refine tq_frzR (E := (EBookN G)) 1 (hr3.mono (Mem.le_trans hl8 hl9)) (by first | (have q0_ := hxw.2; simp only [EEnt]; omega) | (have q_ := ck_bd (by assumption); simp only [EBookN, List.length_append, List.length_cons, List.length_nil]; omega) | (have q_ := ck_bd (by assumption); (try simp only [List.length_append, List.length_cons, List.length_nil]); omega)) (fun G10 hl10 hs13 => ?_)
     have hf4 : clerkTick c = ((⟨((queueTake c.queue c.batch).1), c.batch, c.every, c.now + 1, (chainGrow c.heads ((treeAtE xw []).1) (c.now + 1)).1, (c.books ++ [xw])⟩ : ClerkD), true, 0) := by
      unfold clerkTick clerkZ; first | (rw [if_pos (by assumption)]; done) | (rw [if_neg (by simp_all)]; first | (rw [if_pos (by assumption)]; done) | (rw [if_neg (by simp_all)]; first | (rw [if_pos (by assumption)]; done) | (rw [if_neg (by simp_all)]; have e_ : xw = tickBook c := (by rw [hxw.1, List.take_of_length_le (by omega)]; rfl); rw [← e_])))
     refine tq_ret [5, 0, 0] [.agg #[I (((queueTake c.queue c.batch).1).most), Sl a7 ((((queueTake c.queue c.batch).1).wait).length) c6, I c.batch, I c.every, I (c.now + 1), Sl a13 (((chainGrow c.heads ((treeAtE xw []).1) (c.now + 1)).1).length) c12, Sl a12 ((c.books ++ [xw]).length) c11], Bo true, I 0] (bp_rowsA [] (Mem.le_trans (Mem.le_trans (Mem.le_trans (Mem.le_trans (Mem.le_trans (Mem.le_trans (Mem.le_trans (Mem.le_trans hl1 hl2) hl3) hl4) hle) hl7) hl8) hl9) hl10) ?_)
     rw [hf4]
     try dsimp only
     exact ⟨a7, c6, a13, c12, a12, c11, rfl, w9, ⟨(hs7.1.mono (Mem.le_trans (Mem.le_trans (Mem.le_trans (Mem.le_trans (Mem.le_trans (Mem.le_trans hl3 hl4) hle) hl7) hl8) hl9) hl10)), (Nw.base hs7.2 hl1)⟩, (by first | (first | assumption | omega | (have q_ := ck_bd (by assumption); omega) | (simp; done) | (simp; omega)) | (dsimp only; first | assumption | omega | (have q_ := ck_bd (by assumption); omega) | (simp; done) | (simp; omega))), (by first | (first | assumption | omega | (have q_ := ck_bd (by assumption); omega) | (simp; done) | (simp; omega)) | (dsimp only; first | assumption | omega | (have q_ := ck_bd (by assumption); omega) | (simp; done) | (simp; omega))), (by have q_ := ck_bd (by assumption); (try dsimp only); omega), ⟨(hs12.mono hl10), (Nw.base ho3 (Mem.le_trans (Mem.le_trans (Mem.le_trans (Mem.le_trans (Mem.le_trans (Mem.le_trans hl1 hl2) hl3) hl4) hle) hl7) hl8))⟩, ⟨hs13, (Nw.base ho4 (Mem.le_trans (Mem.le_trans (Mem.le_trans (Mem.le_trans (Mem.le_trans (Mem.le_trans (Mem.le_trans hl1 hl2) hl3) hl4) hle) hl7) hl8) hl9))⟩, rfl⟩
theorem smHeads_con (G : Mem) (a_a : Option Addr) (c_a : Nat) (a : List HeadD) (h_a : RS EHead G a_a c_a a) (a_b : Option Addr) (c_b : Nat) (b : List HeadD) (h_b : RS EHead G a_b c_b b)  : ConV 34 #[Sl a_a a.length c_a, Sl a_b b.length c_b] G (Bo (decide (a = b))) := by
 refine con_of Tryz.func34 26 [(0, Sl a_a a.length c_a), (1, Sl a_b b.length c_b)] rfl (fun w0 G0 => ?_)
 refine tc_rbn [0] [] (tc_seq ?_)
 refine tc_rbn [0,0,0,0,0] [(10, Bo (!decide ((a.length : Int) = (b.length : Int))))] ?_
 refine tc_condP (!decide ((a.length : Int) = (b.length : Int))) (fun h1 => ?_) (fun h1 => ?_)
 ·
  refine tc_rbn [0] [(4, Bo false)] (tc_ret (tq_then_ret ?_))
  refine tq_ret [0] [Bo false] (bp_ret (Mem.le_refl _) (congrArg Bo (?_ : (decide (a = b)) = false).symm))
  first | (rw [decide_eq_false]; intro hh; subst hh; exact absurd rfl h1) | (rw [decide_eq_false]; exact ne_at hx1 hx2 (by first | (rw [HeadD_ne]; simp_all; done) | simpa using h3)) | (rw [decide_eq_true]; exact takeEq_all (by omega) (by omega) he)
 ·
  refine tc_skip (tq_then (tc_seq ?_))
  refine tc_rbn [0,0,0] [(12, I (a.length : Int)), (13, I 0)] (tc_block ?_)
  have hlm_h_a : a.length ≤ 9223372036854775807 := Nat.le_trans (h_a).le (h_a).max
  have hlm_h_b : b.length ≤ 9223372036854775807 := Nat.le_trans (h_b).le (h_b).max
  refine tc_loop (σ := Nat) (fun q_ => (q_ ≤ a.length) ∧ (a.take q_ = b.take q_)) (fun q_ => [(0, Sl a_a a.length c_a), (1, Sl a_b b.length c_b), (12, I (a.length : Int)), (13, I (q_ : Int))]) (fun q_ => G) (fun q_ => []) (fun q_ => a.length - q_) 0 ⟨(by (try dsimp only); first | exact Nat.zero_le _ | omega | simp), rfl⟩ (fun q_ hs => ?_)
  revert hs; revert q_; intro i hs
  obtain ⟨hi, he⟩ := hs
  refine tc_eq (fr' := [(0, Sl a_a a.length c_a), (1, Sl a_b b.length c_b), (12, I (a.length : Int)), (13, I (i : Int))]) (L' := []) rfl rfl ?_
  refine tc_rbn [0] [(14, Bo (decide ((i : Int) < (a.length : Int))))] (tc_seq ?_)
  refine tc_condP (decide ((i : Int) < (a.length : Int))) (fun h2 => ?_) (fun h2 => ?_)
  ·
   refine tc_skip (tq_then (tc_seq (tc_block ?_)))
   refine tc_rbn [0,0] [(5, I (i : Int))] (tc_seq ?_)
   obtain ⟨b1, o1, rfl⟩ := RS.addr h_a (k := i) (by omega)
   obtain ⟨x1, hx1⟩ := getX (l := a) (k := i) (by omega)
   obtain ⟨_, ⟨rfl, w1, w2, w3, w4⟩, hc1⟩ := RS.get h_a hx1
   obtain ⟨b2, o2, rfl⟩ := RS.addr h_b (k := i) (by omega)
   obtain ⟨x2, hx2⟩ := getX (l := b) (k := i) (by omega)
   obtain ⟨_, ⟨rfl, w5, w6, w7, w8⟩, hc2⟩ := RS.get h_b hx2
   refine tc_draw [] ?_
   refine dr_V [(0, Sl (At b1 o1) a.length c_a), (1, I (i : Int)), (2, Pt b1 (o1 + i * 4)), (3, .agg #[I x1.epoch, U x1.root, U x1.prev, I x1.at_]), (4, Sl (At b2 o2) b.length c_b), (5, I (i : Int)), (6, Pt b2 (o2 + i * 4)), (7, .agg #[I x2.epoch, U x2.root, U x2.prev, I x2.at_]), (8, Bo (!(decide (x1.epoch = x2.epoch) && decide (x1.root = x2.root) && decide (x1.prev = x2.prev) && decide (x1.at_ = x2.at_))))] ?_
   refine dr_end [] [(0,0), (1,0), (4,0), (5,0)] [2, 3, 6, 7, 8] [(0, Sl (At b1 o1) a.length c_a), (1, Sl (At b2 o2) b.length c_b), (12, I (a.length : Int)), (13, I (i : Int)), (24, Bo (!(decide (x1.epoch = x2.epoch) && decide (x1.root = x2.root) && decide (x1.prev = x2.prev) && decide (x1.at_ = x2.at_))))] (fmc ?_ (fmc ?_ (fmc ?_ (fmc ?_ (fmc ?_ fm0))))) ?_
   ·
    refine stab_of 2 18 (Pt b1 (o1 + i * 4)) [(16, Sl (At b1 o1) a.length c_a), (17, I (i : Int))] (fun X => ?_)
    exact runL_idx (b := b1) (off := o1) (len := a.length) (cap := c_a) (ik := .i64) 18 24 4 i (by omega) stab_end
   ·
    refine stab_of 3 19 (.agg #[I x1.epoch, U x1.root, U x1.prev, I x1.at_]) [(18, Pt b1 (o1 + i * 4))] (fun X => ?_)
    exact runL_ldG 19 24 (cs := [I x1.epoch, U x1.root, U x1.prev, I x1.at_]) 0 (.agg #[I x1.epoch, U x1.root, U x1.prev, I x1.at_]) hc1 stab_end
   ·
    refine stab_of 6 22 (Pt b2 (o2 + i * 4)) [(20, Sl (At b2 o2) b.length c_b), (21, I (i : Int))] (fun X => ?_)
    exact runL_idx (b := b2) (off := o2) (len := b.length) (cap := c_b) (ik := .i64) 22 24 4 i (by omega) stab_end
   ·
    refine stab_of 7 23 (.agg #[I x2.epoch, U x2.root, U x2.prev, I x2.at_]) [(22, Pt b2 (o2 + i * 4))] (fun X => ?_)
    exact runL_ldG 23 24 (cs := [I x2.epoch, U x2.root, U x2.prev, I x2.at_]) 0 (.agg #[I x2.epoch, U x2.root, U x2.prev, I x2.at_]) hc2 stab_end
   ·
    refine stab_of 8 24 (Bo (!(decide (x1.epoch = x2.epoch) && decide (x1.root = x2.root) && decide (x1.prev = x2.prev) && decide (x1.at_ = x2.at_)))) [(19, .agg #[I x1.epoch, U x1.root, U x1.prev, I x1.at_]), (23, .agg #[I x2.epoch, U x2.root, U x2.prev, I x2.at_])] (fun X => ?_)
    exact runL_eqv 24 (Bo (!(decide (x1.epoch = x2.epoch) && (decide (x1.root = x2.root) && (decide (x1.prev = x2.prev) && (decide (x1.at_ = x2.at_) && true)))))) (Bo (!(decide (x1.epoch = x2.epoch) && decide (x1.root = x2.root) && decide (x1.prev = x2.prev) && decide (x1.at_ = x2.at_)))) (by simp [B_toList, Bool.and_assoc]) stab_end
   refine tq_then ?_
   refine tc_condP (!(decide (x1.epoch = x2.epoch) && decide (x1.root = x2.root) && decide (x1.prev = x2.prev) && decide (x1.at_ = x2.at_))) (fun h3 => ?_) (fun h3 => ?_)
   ·
    refine tc_rbn [0] [(4, Bo false)] (tc_ret (tq_block_ret (tq_then_ret (tq_rnd_ret (tq_block_ret (tq_then_ret ?_))))))
    refine tq_ret [0] [Bo false] (bp_ret (Mem.le_refl _) (congrArg Bo (?_ : (decide (a = b)) = false).symm))
    first | (rw [decide_eq_false]; intro hh; subst hh; exact absurd rfl h1) | (rw [decide_eq_false]; exact ne_at hx1 hx2 (by first | (rw [HeadD_ne]; simp_all; done) | simpa using h3)) | (rw [decide_eq_true]; exact takeEq_all (by omega) (by omega) he)
   ·
    refine tc_skip (tq_block (tq_then (tc_region ?_)))
    refine runL_bn [0,0] [(13, I (IntKind.i64.wrap ((i : Int) + 1)))] ?_
    refine runL_wi64 13 ((i : Int) + 1) (by omega) ?_
    refine runL_nil ?_
    exact tq_rnd (i + 1) ⟨(by omega), (takeEq_step he hx1 hx2 (by first | (rw [HeadD_ne]; simp_all; done) | simpa using h3))⟩ (by (try dsimp only); omega)
  ·
   refine tc_exit (tq_then_exit (tq_rnd_exit (tq_block_here (tq_then ?_))))
   refine tc_rbn [0] [(4, Bo true)] (tc_ret ?_)
   refine tq_ret [0] [Bo true] (bp_ret (Mem.le_refl _) (congrArg Bo (?_ : (decide (a = b)) = true).symm))
   first | (rw [decide_eq_false]; intro hh; subst hh; exact absurd rfl h1) | (rw [decide_eq_false]; exact ne_at hx1 hx2 (by first | (rw [HeadD_ne]; simp_all; done) | simpa using h3)) | (rw [decide_eq_true]; exact takeEq_all (by omega) (by omega) he)
theorem smAsks_con (G : Mem) (a_a : Option Addr) (c_a : Nat) (a : List AskD) (h_a : RS EAsk G a_a c_a a) (a_b : Option Addr) (c_b : Nat) (b : List AskD) (h_b : RS EAsk G a_b c_b b)  : ConV 63 #[Sl a_a a.length c_a, Sl a_b b.length c_b] G (Bo (decide (a = b))) := by
 refine con_of Tryz.func63 26 [(0, Sl a_a a.length c_a), (1, Sl a_b b.length c_b)] rfl (fun w0 G0 => ?_)
 refine tc_rbn [0] [] (tc_seq ?_)
 refine tc_rbn [0,0,0,0,0] [(10, Bo (!decide ((a.length : Int) = (b.length : Int))))] ?_
 refine tc_condP (!decide ((a.length : Int) = (b.length : Int))) (fun h1 => ?_) (fun h1 => ?_)
 ·
  refine tc_rbn [0] [(4, Bo false)] (tc_ret (tq_then_ret ?_))
  refine tq_ret [0] [Bo false] (bp_ret (Mem.le_refl _) (congrArg Bo (?_ : (decide (a = b)) = false).symm))
  first | (rw [decide_eq_false]; intro hh; subst hh; exact absurd rfl h1) | (rw [decide_eq_false]; exact ne_at hx1 hx2 (by first | (rw [AskD_ne]; simp_all; done) | simpa using h3)) | (rw [decide_eq_true]; exact takeEq_all (by omega) (by omega) he)
 ·
  refine tc_skip (tq_then (tc_seq ?_))
  refine tc_rbn [0,0,0] [(12, I (a.length : Int)), (13, I 0)] (tc_block ?_)
  have hlm_h_a : a.length ≤ 9223372036854775807 := Nat.le_trans (h_a).le (h_a).max
  have hlm_h_b : b.length ≤ 9223372036854775807 := Nat.le_trans (h_b).le (h_b).max
  refine tc_loop (σ := Nat) (fun q_ => (q_ ≤ a.length) ∧ (a.take q_ = b.take q_)) (fun q_ => [(0, Sl a_a a.length c_a), (1, Sl a_b b.length c_b), (12, I (a.length : Int)), (13, I (q_ : Int))]) (fun q_ => G) (fun q_ => []) (fun q_ => a.length - q_) 0 ⟨(by (try dsimp only); first | exact Nat.zero_le _ | omega | simp), rfl⟩ (fun q_ hs => ?_)
  revert hs; revert q_; intro i hs
  obtain ⟨hi, he⟩ := hs
  refine tc_eq (fr' := [(0, Sl a_a a.length c_a), (1, Sl a_b b.length c_b), (12, I (a.length : Int)), (13, I (i : Int))]) (L' := []) rfl rfl ?_
  refine tc_rbn [0] [(14, Bo (decide ((i : Int) < (a.length : Int))))] (tc_seq ?_)
  refine tc_condP (decide ((i : Int) < (a.length : Int))) (fun h2 => ?_) (fun h2 => ?_)
  ·
   refine tc_skip (tq_then (tc_seq (tc_block ?_)))
   refine tc_rbn [0,0] [(5, I (i : Int))] (tc_seq ?_)
   obtain ⟨b1, o1, rfl⟩ := RS.addr h_a (k := i) (by omega)
   obtain ⟨x1, hx1⟩ := getX (l := a) (k := i) (by omega)
   obtain ⟨_, ⟨rfl, w1, w2, w3, w4⟩, hc1⟩ := RS.get h_a hx1
   obtain ⟨b2, o2, rfl⟩ := RS.addr h_b (k := i) (by omega)
   obtain ⟨x2, hx2⟩ := getX (l := b) (k := i) (by omega)
   obtain ⟨_, ⟨rfl, w5, w6, w7, w8⟩, hc2⟩ := RS.get h_b hx2
   refine tc_draw [] ?_
   refine dr_V [(0, Sl (At b1 o1) a.length c_a), (1, I (i : Int)), (2, Pt b1 (o1 + i * 4)), (3, .agg #[Sr x1.name, Sr x1.value, U x1.n, U x1.tag]), (4, Sl (At b2 o2) b.length c_b), (5, I (i : Int)), (6, Pt b2 (o2 + i * 4)), (7, .agg #[Sr x2.name, Sr x2.value, U x2.n, U x2.tag]), (8, Bo (!((x1.name == x2.name) && (x1.value == x2.value) && decide (x1.n = x2.n) && decide (x1.tag = x2.tag))))] ?_
   refine dr_end [] [(0,0), (1,0), (4,0), (5,0)] [2, 3, 6, 7, 8] [(0, Sl (At b1 o1) a.length c_a), (1, Sl (At b2 o2) b.length c_b), (12, I (a.length : Int)), (13, I (i : Int)), (24, Bo (!((x1.name == x2.name) && (x1.value == x2.value) && decide (x1.n = x2.n) && decide (x1.tag = x2.tag))))] (fmc ?_ (fmc ?_ (fmc ?_ (fmc ?_ (fmc ?_ fm0))))) ?_
   ·
    refine stab_of 2 18 (Pt b1 (o1 + i * 4)) [(16, Sl (At b1 o1) a.length c_a), (17, I (i : Int))] (fun X => ?_)
    exact runL_idx (b := b1) (off := o1) (len := a.length) (cap := c_a) (ik := .i64) 18 47 4 i (by omega) stab_end
   ·
    refine stab_of 3 19 (.agg #[Sr x1.name, Sr x1.value, U x1.n, U x1.tag]) [(18, Pt b1 (o1 + i * 4))] (fun X => ?_)
    exact runL_ldG 19 47 (cs := [Sr x1.name, Sr x1.value, U x1.n, U x1.tag]) 0 (.agg #[Sr x1.name, Sr x1.value, U x1.n, U x1.tag]) hc1 stab_end
   ·
    refine stab_of 6 22 (Pt b2 (o2 + i * 4)) [(20, Sl (At b2 o2) b.length c_b), (21, I (i : Int))] (fun X => ?_)
    exact runL_idx (b := b2) (off := o2) (len := b.length) (cap := c_b) (ik := .i64) 22 47 4 i (by omega) stab_end
   ·
    refine stab_of 7 23 (.agg #[Sr x2.name, Sr x2.value, U x2.n, U x2.tag]) [(22, Pt b2 (o2 + i * 4))] (fun X => ?_)
    exact runL_ldG 23 47 (cs := [Sr x2.name, Sr x2.value, U x2.n, U x2.tag]) 0 (.agg #[Sr x2.name, Sr x2.value, U x2.n, U x2.tag]) hc2 stab_end
   ·
    refine stab_of 8 24 (Bo (!((x1.name == x2.name) && (x1.value == x2.value) && decide (x1.n = x2.n) && decide (x1.tag = x2.tag)))) [(19, .agg #[Sr x1.name, Sr x1.value, U x1.n, U x1.tag]), (23, .agg #[Sr x2.name, Sr x2.value, U x2.n, U x2.tag])] (fun X => ?_)
    exact runL_eqv 24 (Bo (!(((B x1.name).toList == (B x2.name).toList) && (((B x1.value).toList == (B x2.value).toList) && (decide (x1.n = x2.n) && (decide (x1.tag = x2.tag) && true)))))) (Bo (!((x1.name == x2.name) && (x1.value == x2.value) && decide (x1.n = x2.n) && decide (x1.tag = x2.tag)))) (by simp [B_toList, Bool.and_assoc]) stab_end
   refine tq_then ?_
   refine tc_condP (!((x1.name == x2.name) && (x1.value == x2.value) && decide (x1.n = x2.n) && decide (x1.tag = x2.tag))) (fun h3 => ?_) (fun h3 => ?_)
   ·
    refine tc_rbn [0] [(4, Bo false)] (tc_ret (tq_block_ret (tq_then_ret (tq_rnd_ret (tq_block_ret (tq_then_ret ?_))))))
    refine tq_ret [0] [Bo false] (bp_ret (Mem.le_refl _) (congrArg Bo (?_ : (decide (a = b)) = false).symm))
    first | (rw [decide_eq_false]; intro hh; subst hh; exact absurd rfl h1) | (rw [decide_eq_false]; exact ne_at hx1 hx2 (by first | (rw [AskD_ne]; simp_all; done) | simpa using h3)) | (rw [decide_eq_true]; exact takeEq_all (by omega) (by omega) he)
   ·
    refine tc_skip (tq_block (tq_then (tc_region ?_)))
    refine runL_bn [0,0] [(13, I (IntKind.i64.wrap ((i : Int) + 1)))] ?_
    refine runL_wi64 13 ((i : Int) + 1) (by omega) ?_
    refine runL_nil ?_
    exact tq_rnd (i + 1) ⟨(by omega), (takeEq_step he hx1 hx2 (by first | (rw [AskD_ne]; simp_all; done) | simpa using h3))⟩ (by (try dsimp only); omega)
  ·
   refine tc_exit (tq_then_exit (tq_rnd_exit (tq_block_here (tq_then ?_))))
   refine tc_rbn [0] [(4, Bo true)] (tc_ret ?_)
   refine tq_ret [0] [Bo true] (bp_ret (Mem.le_refl _) (congrArg Bo (?_ : (decide (a = b)) = true).symm))
   first | (rw [decide_eq_false]; intro hh; subst hh; exact absurd rfl h1) | (rw [decide_eq_false]; exact ne_at hx1 hx2 (by first | (rw [AskD_ne]; simp_all; done) | simpa using h3)) | (rw [decide_eq_true]; exact takeEq_all (by omega) (by omega) he)
theorem smBook_con (G : Mem) (a_a : Option Addr) (c_a : Nat) (a : List EntD) (h_a : RS EEnt G a_a c_a a) (a_b : Option Addr) (c_b : Nat) (b : List EntD) (h_b : RS EEnt G a_b c_b b)  : ConV 35 #[Sl a_a a.length c_a, Sl a_b b.length c_b] G (Bo (decide (a = b))) := by
 refine con_of Tryz.func35 26 [(0, Sl a_a a.length c_a), (1, Sl a_b b.length c_b)] rfl (fun w0 G0 => ?_)
 refine tc_rbn [0] [] (tc_seq ?_)
 refine tc_rbn [0,0,0,0,0] [(10, Bo (!decide ((a.length : Int) = (b.length : Int))))] ?_
 refine tc_condP (!decide ((a.length : Int) = (b.length : Int))) (fun h1 => ?_) (fun h1 => ?_)
 ·
  refine tc_rbn [0] [(4, Bo false)] (tc_ret (tq_then_ret ?_))
  refine tq_ret [0] [Bo false] (bp_ret (Mem.le_refl _) (congrArg Bo (?_ : (decide (a = b)) = false).symm))
  first | (rw [decide_eq_false]; intro hh; subst hh; exact absurd rfl h1) | (rw [decide_eq_false]; exact ne_at hx1 hx2 (by first | (rw [EntD_ne]; simp_all; done) | simpa using h3)) | (rw [decide_eq_true]; exact takeEq_all (by omega) (by omega) he)
 ·
  refine tc_skip (tq_then (tc_seq ?_))
  refine tc_rbn [0,0,0] [(12, I (a.length : Int)), (13, I 0)] (tc_block ?_)
  have hlm_h_a : a.length ≤ 9223372036854775807 := Nat.le_trans (h_a).le (h_a).max
  have hlm_h_b : b.length ≤ 9223372036854775807 := Nat.le_trans (h_b).le (h_b).max
  refine tc_loop (σ := Nat) (fun q_ => (q_ ≤ a.length) ∧ (a.take q_ = b.take q_)) (fun q_ => [(0, Sl a_a a.length c_a), (1, Sl a_b b.length c_b), (12, I (a.length : Int)), (13, I (q_ : Int))]) (fun q_ => G) (fun q_ => []) (fun q_ => a.length - q_) 0 ⟨(by (try dsimp only); first | exact Nat.zero_le _ | omega | simp), rfl⟩ (fun q_ hs => ?_)
  revert hs; revert q_; intro i hs
  obtain ⟨hi, he⟩ := hs
  refine tc_eq (fr' := [(0, Sl a_a a.length c_a), (1, Sl a_b b.length c_b), (12, I (a.length : Int)), (13, I (i : Int))]) (L' := []) rfl rfl ?_
  refine tc_rbn [0] [(14, Bo (decide ((i : Int) < (a.length : Int))))] (tc_seq ?_)
  refine tc_condP (decide ((i : Int) < (a.length : Int))) (fun h2 => ?_) (fun h2 => ?_)
  ·
   refine tc_skip (tq_then (tc_seq (tc_block ?_)))
   refine tc_rbn [0,0] [(5, I (i : Int))] (tc_seq ?_)
   obtain ⟨b1, o1, rfl⟩ := RS.addr h_a (k := i) (by omega)
   obtain ⟨x1, hx1⟩ := getX (l := a) (k := i) (by omega)
   obtain ⟨_, ⟨rfl, w1, w2⟩, hc1⟩ := RS.get h_a hx1
   obtain ⟨b2, o2, rfl⟩ := RS.addr h_b (k := i) (by omega)
   obtain ⟨x2, hx2⟩ := getX (l := b) (k := i) (by omega)
   obtain ⟨_, ⟨rfl, w3, w4⟩, hc2⟩ := RS.get h_b hx2
   refine tc_draw [] ?_
   refine dr_V [(0, Sl (At b1 o1) a.length c_a), (1, I (i : Int)), (2, Pt b1 (o1 + i * 2)), (3, .agg #[Sr x1.name, Sr x1.value]), (4, Sl (At b2 o2) b.length c_b), (5, I (i : Int)), (6, Pt b2 (o2 + i * 2)), (7, .agg #[Sr x2.name, Sr x2.value]), (8, Bo (!((x1.name == x2.name) && (x1.value == x2.value))))] ?_
   refine dr_end [] [(0,0), (1,0), (4,0), (5,0)] [2, 3, 6, 7, 8] [(0, Sl (At b1 o1) a.length c_a), (1, Sl (At b2 o2) b.length c_b), (12, I (a.length : Int)), (13, I (i : Int)), (24, Bo (!((x1.name == x2.name) && (x1.value == x2.value))))] (fmc ?_ (fmc ?_ (fmc ?_ (fmc ?_ (fmc ?_ fm0))))) ?_
   ·
    refine stab_of 2 18 (Pt b1 (o1 + i * 2)) [(16, Sl (At b1 o1) a.length c_a), (17, I (i : Int))] (fun X => ?_)
    exact runL_idx (b := b1) (off := o1) (len := a.length) (cap := c_a) (ik := .i64) 18 58 2 i (by omega) stab_end
   ·
    refine stab_of 3 19 (.agg #[Sr x1.name, Sr x1.value]) [(18, Pt b1 (o1 + i * 2))] (fun X => ?_)
    exact runL_ldG 19 58 (cs := [Sr x1.name, Sr x1.value]) 0 (.agg #[Sr x1.name, Sr x1.value]) hc1 stab_end
   ·
    refine stab_of 6 22 (Pt b2 (o2 + i * 2)) [(20, Sl (At b2 o2) b.length c_b), (21, I (i : Int))] (fun X => ?_)
    exact runL_idx (b := b2) (off := o2) (len := b.length) (cap := c_b) (ik := .i64) 22 58 2 i (by omega) stab_end
   ·
    refine stab_of 7 23 (.agg #[Sr x2.name, Sr x2.value]) [(22, Pt b2 (o2 + i * 2))] (fun X => ?_)
    exact runL_ldG 23 58 (cs := [Sr x2.name, Sr x2.value]) 0 (.agg #[Sr x2.name, Sr x2.value]) hc2 stab_end
   ·
    refine stab_of 8 24 (Bo (!((x1.name == x2.name) && (x1.value == x2.value)))) [(19, .agg #[Sr x1.name, Sr x1.value]), (23, .agg #[Sr x2.name, Sr x2.value])] (fun X => ?_)
    exact runL_eqv 24 (Bo (!(((B x1.name).toList == (B x2.name).toList) && (((B x1.value).toList == (B x2.value).toList) && true)))) (Bo (!((x1.name == x2.name) && (x1.value == x2.value)))) (by simp [B_toList, Bool.and_assoc]) stab_end
   refine tq_then ?_
   refine tc_condP (!((x1.name == x2.name) && (x1.value == x2.value))) (fun h3 => ?_) (fun h3 => ?_)
   ·
    refine tc_rbn [0] [(4, Bo false)] (tc_ret (tq_block_ret (tq_then_ret (tq_rnd_ret (tq_block_ret (tq_then_ret ?_))))))
    refine tq_ret [0] [Bo false] (bp_ret (Mem.le_refl _) (congrArg Bo (?_ : (decide (a = b)) = false).symm))
    first | (rw [decide_eq_false]; intro hh; subst hh; exact absurd rfl h1) | (rw [decide_eq_false]; exact ne_at hx1 hx2 (by first | (rw [EntD_ne]; simp_all; done) | simpa using h3)) | (rw [decide_eq_true]; exact takeEq_all (by omega) (by omega) he)
   ·
    refine tc_skip (tq_block (tq_then (tc_region ?_)))
    refine runL_bn [0,0] [(13, I (IntKind.i64.wrap ((i : Int) + 1)))] ?_
    refine runL_wi64 13 ((i : Int) + 1) (by omega) ?_
    refine runL_nil ?_
    exact tq_rnd (i + 1) ⟨(by omega), (takeEq_step he hx1 hx2 (by first | (rw [EntD_ne]; simp_all; done) | simpa using h3))⟩ (by (try dsimp only); omega)
  ·
   refine tc_exit (tq_then_exit (tq_rnd_exit (tq_block_here (tq_then ?_))))
   refine tc_rbn [0] [(4, Bo true)] (tc_ret ?_)
   refine tq_ret [0] [Bo true] (bp_ret (Mem.le_refl _) (congrArg Bo (?_ : (decide (a = b)) = true).symm))
   first | (rw [decide_eq_false]; intro hh; subst hh; exact absurd rfl h1) | (rw [decide_eq_false]; exact ne_at hx1 hx2 (by first | (rw [EntD_ne]; simp_all; done) | simpa using h3)) | (rw [decide_eq_true]; exact takeEq_all (by omega) (by omega) he)
theorem smQueue_con (G : Mem) (vs_a : List Value) (a : QueueD) (h_a : EQueue.R G vs_a a) (vs_b : List Value) (b : QueueD) (h_b : EQueue.R G vs_b b)  : ConV 33 #[.agg vs_a.toArray, .agg vs_b.toArray] G (Bo (decide (a = b))) := by
 obtain ⟨a1, c1, rfl, w1, hs1⟩ := h_a
 obtain ⟨a2, c2, rfl, w2, hs2⟩ := h_b
 refine con_of Tryz.func33 17 [(0, .agg #[I a.most, Sl a1 a.wait.length c1]), (1, .agg #[I b.most, Sl a2 b.wait.length c2])] rfl (fun w0 G0 => ?_)
 refine tc_seq (tc_region ?_)
 refine runL_box 2 #[I a.most, Sl a1 a.wait.length c1] 41 (fun b1 => ?_)
 refine runL_box 3 #[I b.most, Sl a2 b.wait.length c2] 41 (fun b2 => ?_)
 refine runL_bn [0] [] (runL_nil (tq_then (tc_seq (tc_region ?_))))
 refine runL_bn [0,4,0,2,0,0] [(10, Bo (decide (a.most = b.most)))] ?_
 refine runL_casesT [10] (decide (a.most = b.most)) (fun h1 => ?_) (fun h1 => ?_)
 ·
  refine runL_bn [0,4,0,2] [(12, Sl a1 a.wait.length c1), (14, Sl a2 b.wait.length c2)] ?_
  refine runL_callV 15 (Bo (decide (a.wait = b.wait))) (smAsks_con G a1 c1 a.wait hs1 a2 c2 b.wait hs2) ?_
  refine runL_bn [0,0] [(4, Bo (decide (a.wait = b.wait)))] (runL_nil (tq_then (tc_ret ?_)))
  refine tq_ret [0] [Bo (decide (a.wait = b.wait))] (bp_ret (Mem.le_refl _) (congrArg Bo (?_ : (decide (a = b)) = (decide (a.wait = b.wait))).symm))
  rw [Bool.eq_iff_iff]; simp [QueueD_ne]; try (simp_all; done)
 ·
  refine runL_bn [1,1,1,1,1,0,0] [(4, Bo false)] (runL_nil (tq_then (tc_ret ?_)))
  refine tq_ret [0] [Bo false] (bp_ret (Mem.le_refl _) (congrArg Bo (?_ : (decide (a = b)) = false).symm))
  rw [Bool.eq_iff_iff]; simp [QueueD_ne]; try (simp_all; done)
theorem smClerk_con (G : Mem) (vs_a : List Value) (a : ClerkD) (h_a : EClerk.R G vs_a a) (vs_b : List Value) (b : ClerkD) (h_b : EClerk.R G vs_b b)  : ConV 14 #[.agg vs_a.toArray, .agg vs_b.toArray] G (Bo (decide (a = b))) := by
 obtain ⟨a1, c1, a2, c2, a3, c3, rfl, w1, hs1, w2, w3, w4, hs2, hs3⟩ := h_a
 obtain ⟨a4, c4, a5, c5, a6, c6, rfl, w5, hs4, w6, w7, w8, hs5, hs6⟩ := h_b
 refine con_of Tryz.func14 69 [(0, .agg #[I a.queue.most, Sl a1 a.queue.wait.length c1, I a.batch, I a.every, I a.now, Sl a2 a.heads.length c2, Sl a3 a.books.length c3]), (1, .agg #[I b.queue.most, Sl a4 b.queue.wait.length c4, I b.batch, I b.every, I b.now, Sl a5 b.heads.length c5, Sl a6 b.books.length c6])] rfl (fun w0 G0 => ?_)
 refine tc_seq (tc_region ?_)
 refine runL_box 2 #[I a.queue.most, Sl a1 a.queue.wait.length c1, I a.batch, I a.every, I a.now, Sl a2 a.heads.length c2, Sl a3 a.books.length c3] 45 (fun b1 => ?_)
 refine runL_box 3 #[I b.queue.most, Sl a4 b.queue.wait.length c4, I b.batch, I b.every, I b.now, Sl a5 b.heads.length c5, Sl a6 b.books.length c6] 45 (fun b2 => ?_)
 refine runL_bn [0] [] (runL_nil (tq_then (tc_seq (tc_seq (tc_region ?_)))))
 refine runL_bn [0,4,0,2] [(7, .agg #[I a.queue.most, Sl a1 a.queue.wait.length c1]), (9, .agg #[I b.queue.most, Sl a4 b.queue.wait.length c4])] ?_
 refine runL_callV 10 (Bo (decide (a.queue = b.queue))) (smQueue_con G [I a.queue.most, Sl a1 a.queue.wait.length c1] a.queue (⟨a1, c1, rfl, w1, hs1⟩) [I b.queue.most, Sl a4 b.queue.wait.length c4] b.queue (⟨a4, c4, rfl, w5, hs4⟩)) ?_
 refine runL_bn [0,0] [(12, Bo (!(decide (a.queue = b.queue))))] ?_
 refine runL_b2n (!(decide (a.queue = b.queue))) [12] [1,1,1,1,1,0] [0,4,0,2,0,0] (fun bb => [(18, Bo (bb || (!decide (a.batch = b.batch))))]) ?_
 refine runL_bn [0] [(19, Bo ((!(decide (a.queue = b.queue))) || (!decide (a.batch = b.batch))))] ?_
 refine runL_b2n ((!(decide (a.queue = b.queue))) || (!decide (a.batch = b.batch))) [19] [1,1,1,1,1,0] [0,4,0,2,0,0] (fun bb => [(25, Bo (bb || (!decide (a.every = b.every))))]) ?_
 refine runL_bn [0] [(26, Bo (((!(decide (a.queue = b.queue))) || (!decide (a.batch = b.batch))) || (!decide (a.every = b.every))))] ?_
 refine runL_b2n (((!(decide (a.queue = b.queue))) || (!decide (a.batch = b.batch))) || (!decide (a.every = b.every))) [26] [1,1,1,1,1,0] [0,4,0,2,0,0] (fun bb => [(32, Bo (bb || (!decide (a.now = b.now))))]) ?_
 refine runL_bn [0] [(33, Bo ((((!(decide (a.queue = b.queue))) || (!decide (a.batch = b.batch))) || (!decide (a.every = b.every))) || (!decide (a.now = b.now))))] ?_
 refine runL_casesT [33] ((((!(decide (a.queue = b.queue))) || (!decide (a.batch = b.batch))) || (!decide (a.every = b.every))) || (!decide (a.now = b.now))) (fun h1 => ?_) (fun h1 => ?_)
 ·
  refine runL_bn [1,1,1,1,1,1,0,0,1,1,1,1,1,1,1,0] [(49, Bo true)] (runL_nil (tq_then ?_))
  refine tc_cond_true ?_
  refine tc_rbn [0] [(4, Bo false)] (tc_ret (tq_then_ret ?_))
  refine tq_ret [0] [Bo false] (bp_ret (Mem.le_refl _) (congrArg Bo (?_ : (decide (a = b)) = false).symm))
  first | (rw [decide_eq_false]; exact ne_books (ne_at hx1 hx2 (by first | assumption | simpa using h4))) | (rw [decide_eq_true]; exact same_clerk (by simp_all) (takeEq_all (by omega) (by omega) he)) | (rw [decide_eq_false]; rw [ClerkD_ne]; simp_all; done) | (rw [decide_eq_false]; intro hh; subst hh; simp_all; done)
 ·
  refine runL_bn [0,4,0,2] [(35, Sl a2 a.heads.length c2), (37, Sl a5 b.heads.length c5)] ?_
  refine runL_callV 38 (Bo (decide (a.heads = b.heads))) (smHeads_con G a2 c2 a.heads hs2 a5 c5 b.heads hs5) ?_
  refine runL_bn [0,0,0] [(41, Bo (!(decide (a.heads = b.heads))))] ?_
  refine runL_b2n (!(decide (a.heads = b.heads))) [41] [1,1,1,1,1,1,1,0] [0,4,0,0,2,0,0,0] (fun bb => [(49, Bo (bb || (!decide ((a.books.length : Int) = (b.books.length : Int)))))]) ?_
  refine runL_nil (tq_then ?_)
  refine tc_condP ((!(decide (a.heads = b.heads))) || (!decide ((a.books.length : Int) = (b.books.length : Int)))) (fun h2 => ?_) (fun h2 => ?_)
  ·
   refine tc_rbn [0] [(4, Bo false)] (tc_ret (tq_then_ret ?_))
   refine tq_ret [0] [Bo false] (bp_ret (Mem.le_refl _) (congrArg Bo (?_ : (decide (a = b)) = false).symm))
   first | (rw [decide_eq_false]; exact ne_books (ne_at hx1 hx2 (by first | assumption | simpa using h4))) | (rw [decide_eq_true]; exact same_clerk (by simp_all) (takeEq_all (by omega) (by omega) he)) | (rw [decide_eq_false]; rw [ClerkD_ne]; simp_all; done) | (rw [decide_eq_false]; intro hh; subst hh; simp_all; done)
  ·
   refine tc_skip (tq_then (tc_seq ?_))
   refine tc_rbn [0,4,0,0] [(52, I (a.books.length : Int)), (53, I 0)] (tc_block ?_)
   refine tc_loop (σ := Nat) (fun q_ => (q_ ≤ a.books.length) ∧ (a.books.take q_ = b.books.take q_)) (fun q_ => [(2, Pt b1 0), (3, Pt b2 0), (52, I (a.books.length : Int)), (53, I (q_ : Int))]) (fun q_ => G) (fun q_ => [[Sg b2 0 [I b.queue.most, Sl a4 b.queue.wait.length c4, I b.batch, I b.every, I b.now, Sl a5 b.heads.length c5, Sl a6 b.books.length c6]], [Sg b1 0 [I a.queue.most, Sl a1 a.queue.wait.length c1, I a.batch, I a.every, I a.now, Sl a2 a.heads.length c2, Sl a3 a.books.length c3]]]) (fun q_ => a.books.length - q_) 0 ⟨(by (try dsimp only); first | exact Nat.zero_le _ | omega | simp), rfl⟩ (fun q_ hs => ?_)
   revert hs; revert q_; intro i hs
   obtain ⟨hi, he⟩ := hs
   refine tc_eq (fr' := [(2, Pt b1 0), (3, Pt b2 0), (52, I (a.books.length : Int)), (53, I (i : Int))]) (L' := [[Sg b2 0 [I b.queue.most, Sl a4 b.queue.wait.length c4, I b.batch, I b.every, I b.now, Sl a5 b.heads.length c5, Sl a6 b.books.length c6]], [Sg b1 0 [I a.queue.most, Sl a1 a.queue.wait.length c1, I a.batch, I a.every, I a.now, Sl a2 a.heads.length c2, Sl a3 a.books.length c3]]]) rfl rfl ?_
   refine tc_rbn [0] [(54, Bo (decide ((i : Int) < (a.books.length : Int))))] (tc_seq ?_)
   refine tc_condP (decide ((i : Int) < (a.books.length : Int))) (fun h3 => ?_) (fun h3 => ?_)
   ·
    refine tc_skip (tq_then (tc_seq (tc_block ?_)))
    refine tc_rbn [0,0] [(5, I (i : Int))] (tc_seq ?_)
    obtain ⟨b3, o1, rfl⟩ := RS.addr hs3 (k := i) (by first | omega | (have q_ := books_mx (l := b.books) (by assumption); have q1_ := books_mx (l := a.books) (by assumption); omega))
    obtain ⟨x1, hx1⟩ := getX (l := a.books) (k := i) (by first | omega | (have q_ := books_mx (l := b.books) (by assumption); have q1_ := books_mx (l := a.books) (by assumption); omega))
    obtain ⟨_, ⟨a7, c7, rfl, hs7⟩, hc1⟩ := RS.get hs3 hx1
    obtain ⟨b4, o2, rfl⟩ := RS.addr hs6 (k := i) (by first | omega | (have q_ := books_mx (l := b.books) (by assumption); have q1_ := books_mx (l := a.books) (by assumption); omega))
    obtain ⟨x2, hx2⟩ := getX (l := b.books) (k := i) (by first | omega | (have q_ := books_mx (l := b.books) (by assumption); have q1_ := books_mx (l := a.books) (by assumption); omega))
    obtain ⟨_, ⟨a8, c8, rfl, hs8⟩, hc2⟩ := RS.get hs6 hx2
    refine tc_draw [] ?_
    refine dr_V [(0, Pt b1 6), (1, Sl (At b3 o1) a.books.length c3), (2, I (i : Int)), (3, Pt b3 (o1 + i * 1)), (4, Sl a7 x1.length c7), (5, Pt b2 6), (6, Sl (At b4 o2) b.books.length c6), (7, I (i : Int)), (8, Pt b4 (o2 + i * 1)), (9, Sl a8 x2.length c8), (10, Bo (decide (x1 = x2))), (11, Bo (!(decide (x1 = x2))))] ?_
    refine dr_end [] [(0,0), (1,4), (2,0), (5,0), (6,2), (7,0), (11,0)] [3, 4, 8, 9, 10] [(2, Pt b1 0), (3, Pt b2 0), (52, I (a.books.length : Int)), (53, I (i : Int)), (67, Bo (!(decide (x1 = x2))))] (fmc ?_ (fmc ?_ (fmc ?_ (fmc ?_ (fmc ?_ fm0))))) ?_
    ·
     refine stab_of 3 59 (Pt b3 (o1 + i * 1)) [(57, Sl (At b3 o1) a.books.length c3), (58, I (i : Int))] (fun X => ?_)
     exact runL_idx (b := b3) (off := o1) (len := a.books.length) (cap := c3) (ik := .i64) 59 25 1 i (by first | omega | (have q_ := books_mx (l := b.books) (by assumption); have q1_ := books_mx (l := a.books) (by assumption); omega)) stab_end
    ·
     refine stab_of 4 60 (Sl a7 x1.length c7) [(59, Pt b3 (o1 + i * 1))] (fun X => ?_)
     exact runL_ldG 60 25 (cs := [Sl a7 x1.length c7]) 0 (Sl a7 x1.length c7) hc1 stab_end
    ·
     refine stab_of 8 64 (Pt b4 (o2 + i * 1)) [(62, Sl (At b4 o2) b.books.length c6), (63, I (i : Int))] (fun X => ?_)
     exact runL_idx (b := b4) (off := o2) (len := b.books.length) (cap := c6) (ik := .i64) 64 25 1 i (by first | omega | (have q_ := books_mx (l := b.books) (by assumption); have q1_ := books_mx (l := a.books) (by assumption); omega)) stab_end
    ·
     refine stab_of 9 65 (Sl a8 x2.length c8) [(64, Pt b4 (o2 + i * 1))] (fun X => ?_)
     exact runL_ldG 65 25 (cs := [Sl a8 x2.length c8]) 0 (Sl a8 x2.length c8) hc2 stab_end
    ·
     refine stab_of 10 66 (Bo (decide (x1 = x2))) [(60, Sl a7 x1.length c7), (65, Sl a8 x2.length c8)] (fun X => ?_)
     exact runL_callV 66 (Bo (decide (x1 = x2))) (smBook_con G a7 c7 x1 hs7 a8 c8 x2 hs8) stab_end
    refine tq_then ?_
    refine tc_condP (!(decide (x1 = x2))) (fun h4 => ?_) (fun h4 => ?_)
    ·
     refine tc_rbn [0] [(4, Bo false)] (tc_ret (tq_block_ret (tq_then_ret (tq_rnd_ret (tq_block_ret (tq_then_ret ?_))))))
     refine tq_ret [0] [Bo false] (bp_ret (Mem.le_refl _) (congrArg Bo (?_ : (decide (a = b)) = false).symm))
     first | (rw [decide_eq_false]; exact ne_books (ne_at hx1 hx2 (by first | assumption | simpa using h4))) | (rw [decide_eq_true]; exact same_clerk (by simp_all) (takeEq_all (by omega) (by omega) he)) | (rw [decide_eq_false]; rw [ClerkD_ne]; simp_all; done) | (rw [decide_eq_false]; intro hh; subst hh; simp_all; done)
    ·
     refine tc_skip (tq_block (tq_then (tc_region ?_)))
     refine runL_bn [0,0] [(53, I (IntKind.i64.wrap ((i : Int) + 1)))] ?_
     refine runL_wi64 53 ((i : Int) + 1) (by first | omega | (have q_ := books_mx (l := b.books) (by assumption); have q1_ := books_mx (l := a.books) (by assumption); omega)) ?_
     refine runL_nil ?_
     exact tq_rnd (i + 1) ⟨(by omega), (takeEq_step he hx1 hx2 (by first | assumption | simpa using h4))⟩ (by (try dsimp only); omega)
   ·
    refine tc_exit (tq_then_exit (tq_rnd_exit (tq_block_here (tq_then ?_))))
    refine tc_rbn [0] [(4, Bo true)] (tc_ret ?_)
    refine tq_ret [0] [Bo true] (bp_ret (Mem.le_refl _) (congrArg Bo (?_ : (decide (a = b)) = true).symm))
    first | (rw [decide_eq_false]; exact ne_books (ne_at hx1 hx2 (by first | assumption | simpa using h4))) | (rw [decide_eq_true]; exact same_clerk (by simp_all) (takeEq_all (by omega) (by omega) he)) | (rw [decide_eq_false]; rw [ClerkD_ne]; simp_all; done) | (rw [decide_eq_false]; intro hh; subst hh; simp_all; done)
theorem ownClerk_con (G : Mem) (vs_c : List Value) (c : ClerkD) (h_c : EClerk.R G vs_c c) (hfb : c.books.length * 24 ≤ 140737488351232) : ConP 10 #[.agg vs_c.toArray] G [] (fun u G' L' => ∃ (a1 : Option Addr) (c2 : Nat) (a3 : Option Addr) (c4 : Nat) (a5 : Option Addr) (c6 : Nat), u = .agg #[I c.queue.most, Sl a1 c.queue.wait.length c2, I c.batch, I c.every, I c.now, Sl a3 c.heads.length c4, Sl a5 c.books.length c6] ∧ (-9223372036854775808 ≤ c.queue.most ∧ c.queue.most < 9223372036854775808) ∧ (RS EAsk G' a1 c2 c.queue.wait) ∧ (-9223372036854775808 ≤ c.batch ∧ c.batch < 9223372036854775808) ∧ (-9223372036854775808 ≤ c.every ∧ c.every < 9223372036854775808) ∧ (-9223372036854775808 ≤ c.now ∧ c.now < 9223372036854775808) ∧ (RS EHead G' a3 c4 c.heads) ∧ (RS ESlEnt G' a5 c6 c.books) ∧ L' = []) := by
 obtain ⟨a1, c1, a2, c2, a3, c3, rfl, w1, hs1, w2, w3, w4, hs2, hs3⟩ := h_c
 refine con_of Tryz.func10 32 [(0, .agg #[I c.queue.most, Sl a1 c.queue.wait.length c1, I c.batch, I c.every, I c.now, Sl a2 c.heads.length c2, Sl a3 c.books.length c3])] rfl (fun w0 G0 => ?_)
 refine tc_seq (tc_region ?_)
 refine runL_box 1 #[I c.queue.most, Sl a1 c.queue.wait.length c1, I c.batch, I c.every, I c.now, Sl a2 c.heads.length c2, Sl a3 c.books.length c3] 45 (fun b1 => ?_)
 refine runL_box 2 #[I 0, Sl none 0 0, I 0, I 0, I 0, Sl none 0 0, Sl none 0 0] 45 (fun b2 => ?_)
 refine runL_nil (tq_then (tc_seq (tc_region ?_)))
 refine runL_bn [0,0,4] [(8, Sl a1 c.queue.wait.length c1)] ?_
 refine runL_empty ?_
 refine runL_app0 9 47 0 (TRow.none EAsk _) hs1 (fun a4 c4 r1 hr1 => ?_)
 refine runL_bsn [0,0,7] [] [r1, [Sg b2 0 [I 0, Sl none 0 0, I 0, I 0, I 0, Sl none 0 0, Sl none 0 0]], [Sg b1 0 [I c.queue.most, Sl a4 c.queue.wait.length c4, I c.batch, I c.every, I c.now, Sl a2 c.heads.length c2, Sl a3 c.books.length c3]]] (runL_nil (tq_then (tc_seq (tc_region ?_))))
 refine runL_bn [0,6] [(13, Sl a2 c.heads.length c2)] ?_
 refine runL_empty ?_
 refine runL_app0 14 24 0 (TRow.none EHead _) hs2 (fun a5 c5 r2 hr2 => ?_)
 refine runL_bsn [0,9] [] [r2, r1, [Sg b2 0 [I 0, Sl none 0 0, I 0, I 0, I 0, Sl none 0 0, Sl none 0 0]], [Sg b1 0 [I c.queue.most, Sl a4 c.queue.wait.length c4, I c.batch, I c.every, I c.now, Sl a5 c.heads.length c5, Sl a3 c.books.length c3]]] (runL_nil (tq_then ?_))
 refine tc_rbn [0] [(3, Sl none 0 0)] (tc_seq ?_)
 refine tc_rbn [0,8,0,0] [(17, Sl a3 c.books.length c3), (18, I (c.books.length : Int)), (19, I 0)] (tc_block ?_)
 refine tc_empty ?_
 have hlm_hs3 : c.books.length ≤ 9223372036854775807 := Nat.le_trans (hs3).le (hs3).max
 refine tc_loop (σ := Nat × Option Addr × Nat × List Seg × List (List EntD) × Mem) (fun q_ => (Mem.le G q_.2.2.2.2.2) ∧ (q_.1 ≤ c.books.length) ∧ (TRow ESlEnt q_.2.2.2.2.2 q_.2.1 q_.2.2.1 q_.2.2.2.2.1 q_.2.2.2.1) ∧ (q_.2.2.2.2.1 = c.books.take q_.1)) (fun q_ => [(1, Pt b1 0), (2, Pt b2 0), (3, Sl q_.2.1 q_.2.2.2.2.1.length q_.2.2.1), (17, Sl a3 c.books.length c3), (18, I (c.books.length : Int)), (19, I (q_.1 : Int))]) (fun q_ => q_.2.2.2.2.2) (fun q_ => [q_.2.2.2.1, r2, r1, [Sg b2 0 [I 0, Sl none 0 0, I 0, I 0, I 0, Sl none 0 0, Sl none 0 0]], [Sg b1 0 [I c.queue.most, Sl a4 c.queue.wait.length c4, I c.batch, I c.every, I c.now, Sl a5 c.heads.length c5, Sl a3 c.books.length c3]]]) (fun q_ => c.books.length - q_.1) (0, none, 0, [], [], G) ⟨(Mem.le_refl _), (by (try dsimp only); first | exact Nat.zero_le _ | omega | simp), (TRow.none ESlEnt _), rfl⟩ (fun q_ hs => ?_)
 obtain ⟨i, aw, cw, rw, xw, g⟩ := q_
 obtain ⟨hle, hi, hrw, hxw⟩ := hs
 dsimp only at hle hi hrw hxw
 refine tc_eq (fr' := [(1, Pt b1 0), (2, Pt b2 0), (3, Sl aw xw.length cw), (17, Sl a3 c.books.length c3), (18, I (c.books.length : Int)), (19, I (i : Int))]) (L' := [rw, r2, r1, [Sg b2 0 [I 0, Sl none 0 0, I 0, I 0, I 0, Sl none 0 0, Sl none 0 0]], [Sg b1 0 [I c.queue.most, Sl a4 c.queue.wait.length c4, I c.batch, I c.every, I c.now, Sl a5 c.heads.length c5, Sl a3 c.books.length c3]]]) rfl rfl ?_
 refine tc_rbn [0] [(20, Bo (decide ((i : Int) < (c.books.length : Int))))] (tc_seq ?_)
 refine tc_condP (decide ((i : Int) < (c.books.length : Int))) (fun h1 => ?_) (fun h1 => ?_)
 ·
  refine tc_skip (tq_then (tc_seq (tc_block (tc_seq (tc_region ?_)))))
  obtain ⟨b3, o1, rfl⟩ := RS.addr (hs3.mono hle) (k := i) (by omega)
  obtain ⟨x1, hx1⟩ := getX (l := c.books) (k := i) (by omega)
  obtain ⟨_, ⟨a6, c6, rfl, hs4⟩, hc1⟩ := RS.get (hs3.mono hle) hx1
  refine runL_idx (b := b3) (off := o1) (len := c.books.length) (cap := c3) (ik := .i64) 21 25 1 i (by omega) ?_
  refine runL_ldG 22 25 (cs := [Sl a6 x1.length c6]) 0 (Sl a6 x1.length c6) hc1 ?_
  refine runL_bn [0] [(5, Sl a6 x1.length c6)] (runL_nil (tq_then (tc_region ?_)))
  refine runL_bn [0,0] [(23, Sl aw xw.length cw), (24, Sl a6 x1.length c6)] ?_
  refine runL_empty ?_
  refine runL_app0 25 58 0 (TRow.none EEnt _) hs4 (fun a7 c7 r3 hr3 => ?_)
  refine runL_bsl 26 1 #[Sl a7 x1.length c7] 25 (fun b4 => ?_)
  refine runL_frzR (E := EEnt) 1 hr3 (by exact (hs4).fit) (fun G1 hl1 hs5 => ?_)
  refine runL_app1' (b := b4) (cs := [Sl a7 x1.length c7]) 27 25 2 0 (E := ESlEnt) x1 (hrw.mono hl1) ⟨a7, c7, rfl, hs5⟩ (by have q_ := congrArg List.length hxw; rw [List.length_take] at q_; (try simp only [ESlEnt, List.length_append, List.length_cons, List.length_nil]); omega) (by have q_ := congrArg List.length hxw; rw [List.length_take] at q_; (try simp only [ESlEnt, List.length_append, List.length_cons, List.length_nil]); omega) (fun a8 c8 r4 hr4 => ?_)
  refine runL_bn [0] [(3, Sl a8 ((xw ++ [x1]).length) c8)] (runL_nil (tq_block (tq_then (tc_region ?_))))
  refine runL_bn [0,0] [(19, I (IntKind.i64.wrap ((i : Int) + 1)))] ?_
  refine runL_wi64 19 ((i : Int) + 1) (by omega) ?_
  refine runL_nil ?_
  refine tq_ownsA [r4, r2, r1, [Sg b2 0 [I 0, Sl none 0 0, I 0, I 0, I 0, Sl none 0 0, Sl none 0 0]], [Sg b1 0 [I c.queue.most, Sl a4 c.queue.wait.length c4, I c.batch, I c.every, I c.now, Sl a5 c.heads.length c5, Sl (At b3 o1) c.books.length c3]]] ?_
  exact tq_rnd (i + 1, a8, c8, r4, xw ++ [x1], G1) ⟨(Mem.le_trans hle hl1), (by omega), hr4, (by (try dsimp only); rw [hxw, List.take_add_one, hx1]; rfl)⟩ (by (try dsimp only); omega)
 ·
  refine tc_exit (tq_then_exit (tq_rnd_exit (tq_block_here (tq_then ?_))))
  refine tc_rbsn [0,0,11] [] [rw, r2, r1, [Sg b2 0 [I 0, Sl none 0 0, I 0, I 0, I 0, Sl none 0 0, Sl none 0 0]], [Sg b1 0 [I c.queue.most, Sl a4 c.queue.wait.length c4, I c.batch, I c.every, I c.now, Sl a5 c.heads.length c5, Sl aw xw.length cw]]] ?_
  refine tc_rbsn [10,9] [] [rw, r2, r1, [Sg b2 0 [I c.queue.most, Sl a4 c.queue.wait.length c4, I c.batch, I c.every, I c.now, Sl a5 c.heads.length c5, Sl aw xw.length cw]], [Sg b1 0 [I c.queue.most, Sl a4 c.queue.wait.length c4, I c.batch, I c.every, I c.now, Sl a5 c.heads.length c5, Sl aw xw.length cw]]] (tc_ret ?_)
  refine tq_frzR (E := EAsk) 2 (hr1.mono hle) (by exact (hs1).fit) (fun G2 hl2 hs6 => ?_)
  refine tq_frzR (E := EHead) 1 (hr2.mono (Mem.le_trans hle hl2)) (by exact (hs2).fit) (fun G3 hl3 hs7 => ?_)
  refine tq_frzR (E := ESlEnt) 0 (hrw.mono (Mem.le_trans hl2 hl3)) (by first | (have q_ := congrArg List.length hxw; rw [List.length_take] at q_; (try simp only [ESlEnt, List.length_append, List.length_cons, List.length_nil]); omega) | (simp only [EHead]; have q_ := RS.fit (by assumption); simp only [EHead] at q_; omega)) (fun G4 hl4 hs8 => ?_)
  have hf1 : c = (⟨c.queue, c.batch, c.every, c.now, c.heads, xw⟩ : ClerkD) := by
   rw [hxw, List.take_of_length_le (by omega)]
  refine tq_ret [3] [.agg #[I c.queue.most, Sl a4 c.queue.wait.length c4, I c.batch, I c.every, I c.now, Sl a5 c.heads.length c5, Sl aw xw.length cw]] (bp_rowsA [] (Mem.le_trans (Mem.le_trans (Mem.le_trans hle hl2) hl3) hl4) ?_)
  rw [hf1]
  try dsimp only
  exact ⟨a4, c4, a5, c5, aw, cw, rfl, w1, (hs6.mono (Mem.le_trans hl3 hl4)), w2, w3, w4, (hs7.mono hl4), hs8, rfl⟩
theorem o_EClerkF {G : Mem} {cs : List Value} {m : Nat} (h : RdL Tryz.prog G [.int .i64, .sl 39, .int .i64, .int .i64, .int .i64, .sl 42, .sl 43] cs m) : ∃ x, EClerk.R G cs x ∧ x.books.length * 24 ≤ 140737488351232 := by
  obtain ⟨_, c0, _, _, rfl, _, k0, h⟩ := h
  obtain ⟨x0, rfl, w0⟩ := k0
  obtain ⟨_, c1, _, _, rfl, _, k1, h⟩ := h
  obtain ⟨a1, c1_, x1, rfl, hs1, _, hcap1⟩ := rd_slice (E := EAsk) (e := 47) (size := fun _ => 0) k1 (by kernel_rfl) (by kernel_rfl) (fun cs m h => o_EAsk h) (by decide +kernel) (by kernel_rfl) (by kernel_rfl)
  obtain ⟨_, c2, _, _, rfl, _, k2, h⟩ := h
  obtain ⟨x2, rfl, w2⟩ := k2
  obtain ⟨_, c3, _, _, rfl, _, k3, h⟩ := h
  obtain ⟨x3, rfl, w3⟩ := k3
  obtain ⟨_, c4, _, _, rfl, _, k4, h⟩ := h
  obtain ⟨x4, rfl, w4⟩ := k4
  obtain ⟨_, c5, _, _, rfl, _, k5, h⟩ := h
  obtain ⟨a5, c5_, x5, rfl, hs5, _, hcap5⟩ := rd_slice (E := EHead) (e := 24) (size := fun _ => 0) k5 (by kernel_rfl) (by kernel_rfl) (fun cs m h => o_EHead h) (by decide +kernel) (by kernel_rfl) (by kernel_rfl)
  obtain ⟨_, c6, _, _, rfl, _, k6, h⟩ := h
  obtain ⟨a6, c6_, x6, rfl, hs6, _, hcap6⟩ := rd_slice (E := ESlEnt) (e := 25) (size := fun _ => 0) k6 (by kernel_rfl) (by kernel_rfl) (fun cs m h => o_ESlEnt h) (by decide +kernel) (by kernel_rfl) (by kernel_rfl)
  have h : c6 = [] := h
  subst h
  exact ⟨(⟨(⟨x0, x1⟩ : QueueD), x2, x3, x4, x5, x6⟩ : ClerkD), ⟨a1, c1_, a5, c5_, a6, c6_, rfl, wf_i64 w0, hs1, wf_i64 w2, wf_i64 w3, wf_i64 w4, hs5, hs6⟩, Nat.le_trans (Nat.mul_le_mul_right _ hs6.le) hcap6⟩
theorem clerkOwn_con (G : Mem) (vs_c : List Value) (c : ClerkD) (h_c : EClerk.R G vs_c c) (vs_a : List Value) (a : AskD) (h_a : EAsk.R G vs_a a) (epoch : Int) (hw_epoch : -9223372036854775808 ≤ epoch ∧ epoch < 9223372036854775808) (hfb : c.books.length * 24 ≤ 140737488351232) : ConV 4 #[.agg vs_c.toArray, .agg vs_a.toArray, I epoch] G (Bo true) := by
 obtain ⟨a1, c1, a2, c2, a3, c3, rfl, w1, hs1, w2, w3, w4, hs2, hs3⟩ := h_c
 obtain ⟨rfl, w5, w6, w7, w8⟩ := h_a
 refine con_of Tryz.func4 134 [(0, .agg #[I c.queue.most, Sl a1 c.queue.wait.length c1, I c.batch, I c.every, I c.now, Sl a2 c.heads.length c2, Sl a3 c.books.length c3]), (1, .agg #[Sr a.name, Sr a.value, U a.n, U a.tag]), (2, I epoch)] rfl (fun w0 G0 => ?_)
 refine tc_seq (tc_region ?_)
 refine runL_box 3 #[I c.queue.most, Sl a1 c.queue.wait.length c1, I c.batch, I c.every, I c.now, Sl a2 c.heads.length c2, Sl a3 c.books.length c3] 45 (fun b1 => ?_)
 refine runL_box 4 #[Sr a.name, Sr a.value, U a.n, U a.tag] 47 (fun b2 => ?_)
 refine runL_bn [0] [] (runL_nil (tq_then (tc_seq (tc_seq (tc_region ?_)))))
 refine runL_callV 25 (Bo true) (clerks_con G) ?_
 refine runL_bn [0] [(26, Bo false)] (runL_nil (tq_then ?_))
 refine tc_cond_false ?_
 refine tc_skip (tq_then (tc_seq (tc_region ?_)))
 refine runL_bn [4] [(27, .agg #[I c.queue.most, Sl a1 c.queue.wait.length c1, I c.batch, I c.every, I c.now, Sl a2 c.heads.length c2, Sl a3 c.books.length c3])] ?_
 refine runL_callR 28 (ownClerk_con G [I c.queue.most, Sl a1 c.queue.wait.length c1, I c.batch, I c.every, I c.now, Sl a2 c.heads.length c2, Sl a3 c.books.length c3] c (⟨a1, c1, a2, c2, a3, c3, rfl, w1, hs1, w2, w3, w4, hs2, hs3⟩) (by first | assumption | omega)) (fun v G1 L1 hl1 hp => ?_)
 obtain ⟨a4, c4, a5, c5, a6, c6, rfl, w9, hs4, w10, w11, w12, hs5, hs6, rfl⟩ := hp
 refine runL_box 7 #[I 0, Sl none 0 0, I 0, I 0, I 0, Sl none 0 0, Sl none 0 0] 45 (fun b3 => ?_)
 refine runL_bsn [3] [] [[Sg b3 0 [I c.queue.most, Sl a4 c.queue.wait.length c4, I c.batch, I c.every, I c.now, Sl a5 c.heads.length c5, Sl a6 c.books.length c6]], [Sg b2 0 [Sr a.name, Sr a.value, U a.n, U a.tag]], [Sg b1 0 [I c.queue.most, Sl a1 c.queue.wait.length c1, I c.batch, I c.every, I c.now, Sl a2 c.heads.length c2, Sl a3 c.books.length c3]]] (runL_nil (tq_then (tc_seq (tc_region ?_))))
 refine runL_bn [6,4] [(30, .agg #[I c.queue.most, Sl a1 c.queue.wait.length c1, I c.batch, I c.every, I c.now, Sl a2 c.heads.length c2, Sl a3 c.books.length c3]), (31, .agg #[Sr a.name, Sr a.value, U a.n, U a.tag])] ?_
 refine runL_know (p := Mem.le G0 G1) (fun w_ h_ => h_.grow) (fun hg0_ => ?_)
 refine runL_callR 32 (clerkAskN_con G1 [I c.queue.most, Sl a1 c.queue.wait.length c1, I c.batch, I c.every, I c.now, Sl a2 c.heads.length c2, Sl a3 c.books.length c3] c (⟨a1, c1, a2, c2, a3, c3, rfl, w1, (hs1.mono hl1), w2, w3, w4, (hs2.mono hl1), (hs3.mono hl1)⟩) [Sr a.name, Sr a.value, U a.n, U a.tag] a (⟨rfl, w5, w6, w7, w8⟩)) (fun v G2 L1 hl2 hp => ?_)
 obtain ⟨a7, c7, a8, c8, a9, c9, rfl, w13, hs7, w14, w15, w16, hs8, hs9, rfl⟩ := hp
 refine runL_bn [0,0,0,0] [(33, .agg #[I (((clerkAsk c a).1).queue.most), Sl a7 ((((clerkAsk c a).1).queue.wait).length) c7, I (((clerkAsk c a).1).batch), I (((clerkAsk c a).1).every), I (((clerkAsk c a).1).now), Sl a8 ((((clerkAsk c a).1).heads).length) c8, Sl a9 ((((clerkAsk c a).1).books).length) c9]), (34, I ((clerkAsk c a).2.1)), (35, I ((clerkAsk c a).2.2))] ?_
 refine runL_box 8 #[I 0, Sl none 0 0, I 0, I 0, I 0, Sl none 0 0, Sl none 0 0] 45 (fun b4 => ?_)
 refine runL_bsn [3,0,0] [] [[Sg b4 0 [I (((clerkAsk c a).1).queue.most), Sl a7 ((((clerkAsk c a).1).queue.wait).length) c7, I (((clerkAsk c a).1).batch), I (((clerkAsk c a).1).every), I (((clerkAsk c a).1).now), Sl a8 ((((clerkAsk c a).1).heads).length) c8, Sl a9 ((((clerkAsk c a).1).books).length) c9]], [Sg b3 0 [I c.queue.most, Sl a4 c.queue.wait.length c4, I c.batch, I c.every, I c.now, Sl a5 c.heads.length c5, Sl a6 c.books.length c6]], [Sg b2 0 [Sr a.name, Sr a.value, U a.n, U a.tag]], [Sg b1 0 [I c.queue.most, Sl a1 c.queue.wait.length c1, I c.batch, I c.every, I c.now, Sl a2 c.heads.length c2, Sl a3 c.books.length c3]]] (runL_nil (tq_then (tc_seq (tc_region ?_))))
 refine runL_bn [8] [(37, .agg #[I c.queue.most, Sl a1 c.queue.wait.length c1, I c.batch, I c.every, I c.now, Sl a2 c.heads.length c2, Sl a3 c.books.length c3])] ?_
 refine runL_callR 38 (clerkTickN_con G2 [I c.queue.most, Sl a1 c.queue.wait.length c1, I c.batch, I c.every, I c.now, Sl a2 c.heads.length c2, Sl a3 c.books.length c3] c (⟨a1, c1, a2, c2, a3, c3, rfl, w1, (hs1.mono (Mem.le_trans hl1 hl2)), w2, w3, w4, (hs2.mono (Mem.le_trans hl1 hl2)), (hs3.mono (Mem.le_trans hl1 hl2))⟩)) (fun v G3 L1 hl3 hp => ?_)
 obtain ⟨a10, c10, a11, c11, a12, c12, rfl, w17, hs10, w18, w19, w20, hs11, hs12, rfl⟩ := hp
 refine runL_bn [0,0,0,0] [(39, .agg #[I (((clerkTick c).1).queue.most), Sl a10 ((((clerkTick c).1).queue.wait).length) c10, I (((clerkTick c).1).batch), I (((clerkTick c).1).every), I (((clerkTick c).1).now), Sl a11 ((((clerkTick c).1).heads).length) c11, Sl a12 ((((clerkTick c).1).books).length) c12]), (40, Bo ((clerkTick c).2.1)), (41, I ((clerkTick c).2.2))] ?_
 refine runL_box 11 #[I 0, Sl none 0 0, I 0, I 0, I 0, Sl none 0 0, Sl none 0 0] 45 (fun b5 => ?_)
 refine runL_bsn [3,0,0] [] [[Sg b5 0 [I (((clerkTick c).1).queue.most), Sl a10 ((((clerkTick c).1).queue.wait).length) c10, I (((clerkTick c).1).batch), I (((clerkTick c).1).every), I (((clerkTick c).1).now), Sl a11 ((((clerkTick c).1).heads).length) c11, Sl a12 ((((clerkTick c).1).books).length) c12]], [Sg b4 0 [I (((clerkAsk c a).1).queue.most), Sl a7 ((((clerkAsk c a).1).queue.wait).length) c7, I (((clerkAsk c a).1).batch), I (((clerkAsk c a).1).every), I (((clerkAsk c a).1).now), Sl a8 ((((clerkAsk c a).1).heads).length) c8, Sl a9 ((((clerkAsk c a).1).books).length) c9]], [Sg b3 0 [I c.queue.most, Sl a4 c.queue.wait.length c4, I c.batch, I c.every, I c.now, Sl a5 c.heads.length c5, Sl a6 c.books.length c6]], [Sg b2 0 [Sr a.name, Sr a.value, U a.n, U a.tag]], [Sg b1 0 [I c.queue.most, Sl a1 c.queue.wait.length c1, I c.batch, I c.every, I c.now, Sl a2 c.heads.length c2, Sl a3 c.books.length c3]]] (runL_nil (tq_then (tc_seq (tc_region ?_))))
 refine runL_bn [10,0] [(43, .agg #[I c.queue.most, Sl a1 c.queue.wait.length c1, I c.batch, I c.every, I c.now, Sl a2 c.heads.length c2, Sl a3 c.books.length c3]), (44, I epoch)] ?_
 refine runL_callR 45 (clerkBook_con G3 [I c.queue.most, Sl a1 c.queue.wait.length c1, I c.batch, I c.every, I c.now, Sl a2 c.heads.length c2, Sl a3 c.books.length c3] c (⟨a1, c1, a2, c2, a3, c3, rfl, w1, (hs1.mono (Mem.le_trans (Mem.le_trans hl1 hl2) hl3)), w2, w3, w4, (hs2.mono (Mem.le_trans (Mem.le_trans hl1 hl2) hl3)), (hs3.mono (Mem.le_trans (Mem.le_trans hl1 hl2) hl3))⟩) epoch hw_epoch) (fun v G4 L1 hl4 hp => ?_)
 obtain ⟨a13, c13, r1, rfl, hr1, rfl⟩ := hp
 refine runL_bn [0,0,0,0,0] [(14, Sl a13 (((clerkBook c epoch).1).length) c13)] (runL_nil (tq_then (tc_seq (tc_region ?_))))
 refine runL_bn [12,8] [(48, .agg #[I c.queue.most, Sl a1 c.queue.wait.length c1, I c.batch, I c.every, I c.now, Sl a2 c.heads.length c2, Sl a3 c.books.length c3]), (49, .agg #[I c.queue.most, Sl a4 c.queue.wait.length c4, I c.batch, I c.every, I c.now, Sl a5 c.heads.length c5, Sl a6 c.books.length c6])] ?_
 refine runL_callV 50 (Bo (decide (c = c))) (smClerk_con G4 [I c.queue.most, Sl a1 c.queue.wait.length c1, I c.batch, I c.every, I c.now, Sl a2 c.heads.length c2, Sl a3 c.books.length c3] c (⟨a1, c1, a2, c2, a3, c3, rfl, w1, (hs1.mono (Mem.le_trans (Mem.le_trans (Mem.le_trans hl1 hl2) hl3) hl4)), w2, w3, w4, (hs2.mono (Mem.le_trans (Mem.le_trans (Mem.le_trans hl1 hl2) hl3) hl4)), (hs3.mono (Mem.le_trans (Mem.le_trans (Mem.le_trans hl1 hl2) hl3) hl4))⟩) [I c.queue.most, Sl a4 c.queue.wait.length c4, I c.batch, I c.every, I c.now, Sl a5 c.heads.length c5, Sl a6 c.books.length c6] c (⟨a4, c4, a5, c5, a6, c6, rfl, w9, (hs4.mono (Mem.le_trans (Mem.le_trans hl2 hl3) hl4)), w10, w11, w12, (hs5.mono (Mem.le_trans (Mem.le_trans hl2 hl3) hl4)), (hs6.mono (Mem.le_trans (Mem.le_trans hl2 hl3) hl4))⟩)) ?_
 refine runL_bn [0] [(16, Bo (decide (c = c)))] (runL_nil (tq_then (tc_seq ?_)))
 have hck_ : C2 G1 G4 (⟨a7, ((clerkAsk c a).1).queue.wait.length, a8, ((clerkAsk c a).1).heads.length, a9, ((clerkAsk c a).1).books.length⟩ : CA) (⟨a10, ((clerkTick c).1).queue.wait.length, a11, ((clerkTick c).1).heads.length, a12, ((clerkTick c).1).books.length⟩ : CA) 140737488351232 := ⟨(COk.of (x := (clerkAsk c a).1) (hs7.1.mono (Mem.le_trans hl3 hl4)) (Nw.base hs7.2 (Mem.le_refl _)) (hs8.1.mono (Mem.le_trans hl3 hl4)) (Nw.base hs8.2 (Mem.le_refl _)) (RS.bn (hs9.1.mono (Mem.le_trans hl3 hl4)) (Mem.le_refl _)) (ask_bk c a)), (COk.of (x := (clerkTick c).1) (hs10.1.mono hl4) (Nw.base hs10.2 hl2) (hs11.1.mono hl4) (Nw.base hs11.2 hl2) (RS.bn (hs12.1.mono hl4) hl2) (tick_bk c))⟩
 have hbx_ := (ask_bk c a).1
 have hby_ := (tick_bk c).1
 have hlm81_ : (((clerkAsk c a).1).queue.wait).length ≤ 9223372036854775807 := Nat.le_trans (hs7.1.mono (Mem.le_trans hl3 hl4)).le (hs7.1.mono (Mem.le_trans hl3 hl4)).max
 have hlm85_ : (((clerkAsk c a).1).heads).length ≤ 9223372036854775807 := Nat.le_trans (hs8.1.mono (Mem.le_trans hl3 hl4)).le (hs8.1.mono (Mem.le_trans hl3 hl4)).max
 have hlm111_ : (((clerkTick c).1).queue.wait).length ≤ 9223372036854775807 := Nat.le_trans (hs10.1.mono hl4).le (hs10.1.mono hl4).max
 have hlm115_ : (((clerkTick c).1).heads).length ≤ 9223372036854775807 := Nat.le_trans (hs11.1.mono hl4).le (hs11.1.mono hl4).max
 refine tc_rbn [6,4,0,0] [(53, .agg #[I (((clerkAsk c a).1).queue.most), Sl a7 ((((clerkAsk c a).1).queue.wait).length) c7, I (((clerkAsk c a).1).batch), I (((clerkAsk c a).1).every), I (((clerkAsk c a).1).now), Sl a8 ((((clerkAsk c a).1).heads).length) c8, Sl a9 ((((clerkAsk c a).1).books).length) c9, I (((clerkTick c).1).queue.most), Sl a10 ((((clerkTick c).1).queue.wait).length) c10, I (((clerkTick c).1).batch), I (((clerkTick c).1).every), I (((clerkTick c).1).now), Sl a11 ((((clerkTick c).1).heads).length) c11, Sl a12 ((((clerkTick c).1).books).length) c12]), (54, I 0)] (tc_block ?_)
 refine tc_unroll 3 ?_
 refine ti_step ?_
 refine tc_rbn [0] [(55, Bo true)] (tc_seq ?_)
 refine tc_cond_true ?_
 refine tc_skip (tq_then (tc_seq (tc_block (tc_seq (tc_region ?_)))))
 refine runL_p1 56 (.agg #[I (((clerkAsk c a).1).queue.most), Sl a7 ((((clerkAsk c a).1).queue.wait).length) c7, I (((clerkAsk c a).1).batch), I (((clerkAsk c a).1).every), I (((clerkAsk c a).1).now), Sl a8 ((((clerkAsk c a).1).heads).length) c8, Sl a9 ((((clerkAsk c a).1).books).length) c9]) (.agg #[I (((clerkAsk c a).1).queue.most), Sl a7 ((((clerkAsk c a).1).queue.wait).length) c7, I (((clerkAsk c a).1).batch), I (((clerkAsk c a).1).every), I (((clerkAsk c a).1).now), Sl a8 ((((clerkAsk c a).1).heads).length) c8, Sl a9 ((((clerkAsk c a).1).books).length) c9]) rfl ?_
 refine runL_box 18 #[I 0, Sl none 0 0, I 0, I 0, I 0, Sl none 0 0, Sl none 0 0] 45 (fun b6 => ?_)
 refine runL_bsn [3] [] [[Sg b6 0 [I (((clerkAsk c a).1).queue.most), Sl a7 ((((clerkAsk c a).1).queue.wait).length) c7, I (((clerkAsk c a).1).batch), I (((clerkAsk c a).1).every), I (((clerkAsk c a).1).now), Sl a8 ((((clerkAsk c a).1).heads).length) c8, Sl a9 ((((clerkAsk c a).1).books).length) c9]], r1, [Sg b5 0 [I (((clerkTick c).1).queue.most), Sl a10 ((((clerkTick c).1).queue.wait).length) c10, I (((clerkTick c).1).batch), I (((clerkTick c).1).every), I (((clerkTick c).1).now), Sl a11 ((((clerkTick c).1).heads).length) c11, Sl a12 ((((clerkTick c).1).books).length) c12]], [Sg b4 0 [I (((clerkAsk c a).1).queue.most), Sl a7 ((((clerkAsk c a).1).queue.wait).length) c7, I (((clerkAsk c a).1).batch), I (((clerkAsk c a).1).every), I (((clerkAsk c a).1).now), Sl a8 ((((clerkAsk c a).1).heads).length) c8, Sl a9 ((((clerkAsk c a).1).books).length) c9]], [Sg b3 0 [I c.queue.most, Sl a4 c.queue.wait.length c4, I c.batch, I c.every, I c.now, Sl a5 c.heads.length c5, Sl a6 c.books.length c6]], [Sg b2 0 [Sr a.name, Sr a.value, U a.n, U a.tag]], [Sg b1 0 [I c.queue.most, Sl a1 c.queue.wait.length c1, I c.batch, I c.every, I c.now, Sl a2 c.heads.length c2, Sl a3 c.books.length c3]]] (runL_nil (tq_then (tc_seq ?_)))
 refine tc_rbn [0,2,0,0] [(59, I ((((clerkAsk c a).1).heads).length : Int)), (60, I 0)] (tc_block ?_)
 refine tc_loop (σ := Nat × Mem) (fun q_ => (Mem.le G1 q_.2) ∧ (q_.1 ≤ (((clerkAsk c a).1).heads).length) ∧ (C2 G1 q_.2 (⟨a7, ((clerkAsk c a).1).queue.wait.length, a8, ((clerkAsk c a).1).heads.length, a9, ((clerkAsk c a).1).books.length⟩ : CA) (⟨a10, ((clerkTick c).1).queue.wait.length, a11, ((clerkTick c).1).heads.length, a12, ((clerkTick c).1).books.length⟩ : CA) 140737488351232)) (fun q_ => [(3, Pt b1 0), (7, Pt b3 0), (14, Sl a13 (((clerkBook c epoch).1).length) c13), (16, Bo (decide (c = c))), (18, Pt b6 0), (53, .agg #[I (((clerkAsk c a).1).queue.most), Sl a7 ((((clerkAsk c a).1).queue.wait).length) c7, I (((clerkAsk c a).1).batch), I (((clerkAsk c a).1).every), I (((clerkAsk c a).1).now), Sl a8 ((((clerkAsk c a).1).heads).length) c8, Sl a9 ((((clerkAsk c a).1).books).length) c9, I (((clerkTick c).1).queue.most), Sl a10 ((((clerkTick c).1).queue.wait).length) c10, I (((clerkTick c).1).batch), I (((clerkTick c).1).every), I (((clerkTick c).1).now), Sl a11 ((((clerkTick c).1).heads).length) c11, Sl a12 ((((clerkTick c).1).books).length) c12]), (54, I 0), (59, I ((((clerkAsk c a).1).heads).length : Int)), (60, I (q_.1 : Int))]) (fun q_ => q_.2) (fun q_ => [[Sg b6 0 [I (((clerkAsk c a).1).queue.most), Sl a7 ((((clerkAsk c a).1).queue.wait).length) c7, I (((clerkAsk c a).1).batch), I (((clerkAsk c a).1).every), I (((clerkAsk c a).1).now), Sl a8 ((((clerkAsk c a).1).heads).length) c8, Sl a9 ((((clerkAsk c a).1).books).length) c9]], r1, [Sg b5 0 [I (((clerkTick c).1).queue.most), Sl a10 ((((clerkTick c).1).queue.wait).length) c10, I (((clerkTick c).1).batch), I (((clerkTick c).1).every), I (((clerkTick c).1).now), Sl a11 ((((clerkTick c).1).heads).length) c11, Sl a12 ((((clerkTick c).1).books).length) c12]], [Sg b4 0 [I (((clerkAsk c a).1).queue.most), Sl a7 ((((clerkAsk c a).1).queue.wait).length) c7, I (((clerkAsk c a).1).batch), I (((clerkAsk c a).1).every), I (((clerkAsk c a).1).now), Sl a8 ((((clerkAsk c a).1).heads).length) c8, Sl a9 ((((clerkAsk c a).1).books).length) c9]], [Sg b3 0 [I c.queue.most, Sl a4 c.queue.wait.length c4, I c.batch, I c.every, I c.now, Sl a5 c.heads.length c5, Sl a6 c.books.length c6]], [Sg b2 0 [Sr a.name, Sr a.value, U a.n, U a.tag]], [Sg b1 0 [I c.queue.most, Sl a1 c.queue.wait.length c1, I c.batch, I c.every, I c.now, Sl a2 c.heads.length c2, Sl a3 c.books.length c3]]]) (fun q_ => (((clerkAsk c a).1).heads).length - q_.1) (0, G4) ⟨(Mem.le_trans (Mem.le_trans hl2 hl3) hl4), (by (try dsimp only); first | exact Nat.zero_le _ | omega | simp), (C2.wk hck_ (by omega))⟩ (fun q_ hs => ?_)
 obtain ⟨i, g⟩ := q_
 obtain ⟨hle, hi, hck1⟩ := hs
 dsimp only at hle hi hck1
 refine tc_eq (fr' := [(3, Pt b1 0), (7, Pt b3 0), (14, Sl a13 (((clerkBook c epoch).1).length) c13), (16, Bo (decide (c = c))), (18, Pt b6 0), (53, .agg #[I (((clerkAsk c a).1).queue.most), Sl a7 ((((clerkAsk c a).1).queue.wait).length) c7, I (((clerkAsk c a).1).batch), I (((clerkAsk c a).1).every), I (((clerkAsk c a).1).now), Sl a8 ((((clerkAsk c a).1).heads).length) c8, Sl a9 ((((clerkAsk c a).1).books).length) c9, I (((clerkTick c).1).queue.most), Sl a10 ((((clerkTick c).1).queue.wait).length) c10, I (((clerkTick c).1).batch), I (((clerkTick c).1).every), I (((clerkTick c).1).now), Sl a11 ((((clerkTick c).1).heads).length) c11, Sl a12 ((((clerkTick c).1).books).length) c12]), (54, I 0), (59, I ((((clerkAsk c a).1).heads).length : Int)), (60, I (i : Int))]) (L' := [[Sg b6 0 [I (((clerkAsk c a).1).queue.most), Sl a7 ((((clerkAsk c a).1).queue.wait).length) c7, I (((clerkAsk c a).1).batch), I (((clerkAsk c a).1).every), I (((clerkAsk c a).1).now), Sl a8 ((((clerkAsk c a).1).heads).length) c8, Sl a9 ((((clerkAsk c a).1).books).length) c9]], r1, [Sg b5 0 [I (((clerkTick c).1).queue.most), Sl a10 ((((clerkTick c).1).queue.wait).length) c10, I (((clerkTick c).1).batch), I (((clerkTick c).1).every), I (((clerkTick c).1).now), Sl a11 ((((clerkTick c).1).heads).length) c11, Sl a12 ((((clerkTick c).1).books).length) c12]], [Sg b4 0 [I (((clerkAsk c a).1).queue.most), Sl a7 ((((clerkAsk c a).1).queue.wait).length) c7, I (((clerkAsk c a).1).batch), I (((clerkAsk c a).1).every), I (((clerkAsk c a).1).now), Sl a8 ((((clerkAsk c a).1).heads).length) c8, Sl a9 ((((clerkAsk c a).1).books).length) c9]], [Sg b3 0 [I c.queue.most, Sl a4 c.queue.wait.length c4, I c.batch, I c.every, I c.now, Sl a5 c.heads.length c5, Sl a6 c.books.length c6]], [Sg b2 0 [Sr a.name, Sr a.value, U a.n, U a.tag]], [Sg b1 0 [I c.queue.most, Sl a1 c.queue.wait.length c1, I c.batch, I c.every, I c.now, Sl a2 c.heads.length c2, Sl a3 c.books.length c3]]]) rfl rfl ?_
 refine tc_rbn [0] [(61, Bo (decide ((i : Int) < ((((clerkAsk c a).1).heads).length : Int))))] (tc_seq ?_)
 refine tc_condP (decide ((i : Int) < ((((clerkAsk c a).1).heads).length : Int))) (fun h1 => ?_) (fun h1 => ?_)
 ·
  refine tc_skip (tq_then (tc_seq (tc_block ?_)))
  refine tc_rbn [0,0] [(19, I (i : Int))] (tc_region ?_)
  refine runL_bn [0,2,0] [(64, Sl a8 ((((clerkAsk c a).1).heads).length) c8), (65, I (i : Int))] ?_
  obtain ⟨bh1, oh1, ha1, ⟨y1, hy1⟩, hn1⟩ := IR.cell hck1.1.h (k := i) (show i < (((clerkAsk c a).1).heads).length by omega)
  have hy1 : g bh1 (oh1 + i * 4 + 3) = some (I y1) := hy1
  have hn1 : G1 bh1 (oh1 + i * 4 + 3) = none := hn1
  refine runL_idxR (b := bh1) (off := oh1) (len := (((clerkAsk c a).1).heads).length) (cap := c8) (ik := .i64) 66 24 4 i ha1 (by omega) ?_
  refine runL_bn [0] [(67, Pt bh1 (oh1 + i * 4 + 3))] ?_
  refine runL_ldG (b := bh1) (o' := oh1 + i * 4 + 3) 68 2 (cs := [I y1]) 0 (I y1) (one_g hy1) ?_
  refine runL_bn [0] [(69, I (IntKind.i64.wrap (y1 + 1)))] ?_
  refine runL_idxR (b := bh1) (off := oh1) (len := (((clerkAsk c a).1).heads).length) (cap := c8) (ik := .i64) 70 24 4 i ha1 (by omega) ?_
  refine runL_bn [0] [(71, Pt bh1 (oh1 + i * 4 + 3))] ?_
  have hck2 := C2.updI hck1 hy1 (IntKind.i64.wrap (y1 + 1))
  have hle1 := le_upd hle hn1 (I (IntKind.i64.wrap (y1 + 1)))
  refine runL_stT (I (IntKind.i64.wrap (y1 + 1))) (I y1) hy1 (out_le hg0_ hn1) ?_
  refine runL_nil (tq_block (tq_then (tc_region ?_)))
  refine runL_bn [0,0] [(60, I (IntKind.i64.wrap ((i : Int) + 1)))] ?_
  refine runL_wi64 60 ((i : Int) + 1) (by first | omega | (have q_ := hxw.1; (try simp only [List.length_set]); omega)) ?_
  refine runL_nil ?_
  exact tq_rnd (i + 1, (Mem.upd g bh1 (oh1 + i * 4 + 3) (I (IntKind.i64.wrap (y1 + 1))))) ⟨hle1, (by omega), hck2⟩ (by (try dsimp only); omega)
 ·
  refine tc_exit (tq_then_exit (tq_rnd_exit (tq_block_here (tq_then (tc_seq ?_)))))
  refine tc_rbn [0,0,2,0,0] [(76, I ((((clerkAsk c a).1).queue.wait).length : Int)), (77, I 0)] (tc_block ?_)
  refine tc_loop (σ := Nat × Mem) (fun q_ => (Mem.le G1 q_.2) ∧ (q_.1 ≤ (((clerkAsk c a).1).queue.wait).length) ∧ (C2 G1 q_.2 (⟨a7, ((clerkAsk c a).1).queue.wait.length, a8, ((clerkAsk c a).1).heads.length, a9, ((clerkAsk c a).1).books.length⟩ : CA) (⟨a10, ((clerkTick c).1).queue.wait.length, a11, ((clerkTick c).1).heads.length, a12, ((clerkTick c).1).books.length⟩ : CA) 140737488351232)) (fun q_ => [(3, Pt b1 0), (7, Pt b3 0), (14, Sl a13 (((clerkBook c epoch).1).length) c13), (16, Bo (decide (c = c))), (18, Pt b6 0), (53, .agg #[I (((clerkAsk c a).1).queue.most), Sl a7 ((((clerkAsk c a).1).queue.wait).length) c7, I (((clerkAsk c a).1).batch), I (((clerkAsk c a).1).every), I (((clerkAsk c a).1).now), Sl a8 ((((clerkAsk c a).1).heads).length) c8, Sl a9 ((((clerkAsk c a).1).books).length) c9, I (((clerkTick c).1).queue.most), Sl a10 ((((clerkTick c).1).queue.wait).length) c10, I (((clerkTick c).1).batch), I (((clerkTick c).1).every), I (((clerkTick c).1).now), Sl a11 ((((clerkTick c).1).heads).length) c11, Sl a12 ((((clerkTick c).1).books).length) c12]), (54, I 0), (76, I ((((clerkAsk c a).1).queue.wait).length : Int)), (77, I (q_.1 : Int))]) (fun q_ => q_.2) (fun q_ => [[Sg b6 0 [I (((clerkAsk c a).1).queue.most), Sl a7 ((((clerkAsk c a).1).queue.wait).length) c7, I (((clerkAsk c a).1).batch), I (((clerkAsk c a).1).every), I (((clerkAsk c a).1).now), Sl a8 ((((clerkAsk c a).1).heads).length) c8, Sl a9 ((((clerkAsk c a).1).books).length) c9]], r1, [Sg b5 0 [I (((clerkTick c).1).queue.most), Sl a10 ((((clerkTick c).1).queue.wait).length) c10, I (((clerkTick c).1).batch), I (((clerkTick c).1).every), I (((clerkTick c).1).now), Sl a11 ((((clerkTick c).1).heads).length) c11, Sl a12 ((((clerkTick c).1).books).length) c12]], [Sg b4 0 [I (((clerkAsk c a).1).queue.most), Sl a7 ((((clerkAsk c a).1).queue.wait).length) c7, I (((clerkAsk c a).1).batch), I (((clerkAsk c a).1).every), I (((clerkAsk c a).1).now), Sl a8 ((((clerkAsk c a).1).heads).length) c8, Sl a9 ((((clerkAsk c a).1).books).length) c9]], [Sg b3 0 [I c.queue.most, Sl a4 c.queue.wait.length c4, I c.batch, I c.every, I c.now, Sl a5 c.heads.length c5, Sl a6 c.books.length c6]], [Sg b2 0 [Sr a.name, Sr a.value, U a.n, U a.tag]], [Sg b1 0 [I c.queue.most, Sl a1 c.queue.wait.length c1, I c.batch, I c.every, I c.now, Sl a2 c.heads.length c2, Sl a3 c.books.length c3]]]) (fun q_ => (((clerkAsk c a).1).queue.wait).length - q_.1) (0, g) ⟨hle, (by (try dsimp only); first | exact Nat.zero_le _ | omega | simp), (C2.wk hck1 (by omega))⟩ (fun q_ hs => ?_)
  obtain ⟨i, g1_⟩ := q_
  obtain ⟨hle1_, hi, hck3⟩ := hs
  dsimp only at hle1_ hi hck3
  refine tc_eq (fr' := [(3, Pt b1 0), (7, Pt b3 0), (14, Sl a13 (((clerkBook c epoch).1).length) c13), (16, Bo (decide (c = c))), (18, Pt b6 0), (53, .agg #[I (((clerkAsk c a).1).queue.most), Sl a7 ((((clerkAsk c a).1).queue.wait).length) c7, I (((clerkAsk c a).1).batch), I (((clerkAsk c a).1).every), I (((clerkAsk c a).1).now), Sl a8 ((((clerkAsk c a).1).heads).length) c8, Sl a9 ((((clerkAsk c a).1).books).length) c9, I (((clerkTick c).1).queue.most), Sl a10 ((((clerkTick c).1).queue.wait).length) c10, I (((clerkTick c).1).batch), I (((clerkTick c).1).every), I (((clerkTick c).1).now), Sl a11 ((((clerkTick c).1).heads).length) c11, Sl a12 ((((clerkTick c).1).books).length) c12]), (54, I 0), (76, I ((((clerkAsk c a).1).queue.wait).length : Int)), (77, I (i : Int))]) (L' := [[Sg b6 0 [I (((clerkAsk c a).1).queue.most), Sl a7 ((((clerkAsk c a).1).queue.wait).length) c7, I (((clerkAsk c a).1).batch), I (((clerkAsk c a).1).every), I (((clerkAsk c a).1).now), Sl a8 ((((clerkAsk c a).1).heads).length) c8, Sl a9 ((((clerkAsk c a).1).books).length) c9]], r1, [Sg b5 0 [I (((clerkTick c).1).queue.most), Sl a10 ((((clerkTick c).1).queue.wait).length) c10, I (((clerkTick c).1).batch), I (((clerkTick c).1).every), I (((clerkTick c).1).now), Sl a11 ((((clerkTick c).1).heads).length) c11, Sl a12 ((((clerkTick c).1).books).length) c12]], [Sg b4 0 [I (((clerkAsk c a).1).queue.most), Sl a7 ((((clerkAsk c a).1).queue.wait).length) c7, I (((clerkAsk c a).1).batch), I (((clerkAsk c a).1).every), I (((clerkAsk c a).1).now), Sl a8 ((((clerkAsk c a).1).heads).length) c8, Sl a9 ((((clerkAsk c a).1).books).length) c9]], [Sg b3 0 [I c.queue.most, Sl a4 c.queue.wait.length c4, I c.batch, I c.every, I c.now, Sl a5 c.heads.length c5, Sl a6 c.books.length c6]], [Sg b2 0 [Sr a.name, Sr a.value, U a.n, U a.tag]], [Sg b1 0 [I c.queue.most, Sl a1 c.queue.wait.length c1, I c.batch, I c.every, I c.now, Sl a2 c.heads.length c2, Sl a3 c.books.length c3]]]) rfl rfl ?_
  refine tc_rbn [0] [(78, Bo (decide ((i : Int) < ((((clerkAsk c a).1).queue.wait).length : Int))))] (tc_seq ?_)
  refine tc_condP (decide ((i : Int) < ((((clerkAsk c a).1).queue.wait).length : Int))) (fun h2 => ?_) (fun h2 => ?_)
  ·
   refine tc_skip (tq_then (tc_seq (tc_block ?_)))
   refine tc_rbn [0,0] [(20, I (i : Int))] (tc_region ?_)
   refine runL_bn [0,0,2,0] [(82, Sl a7 ((((clerkAsk c a).1).queue.wait).length) c7), (83, I (i : Int))] ?_
   obtain ⟨bh2, oh2, ha2, ⟨y2, hy2⟩, hn2⟩ := IR.cell hck3.1.q (k := i) (show i < (((clerkAsk c a).1).queue.wait).length by omega)
   have hy2 : g1_ bh2 (oh2 + i * 4 + 2) = some (U y2) := hy2
   have hn2 : G1 bh2 (oh2 + i * 4 + 2) = none := hn2
   refine runL_idxR (b := bh2) (off := oh2) (len := (((clerkAsk c a).1).queue.wait).length) (cap := c7) (ik := .i64) 84 47 4 i ha2 (by omega) ?_
   refine runL_bn [0] [(85, Pt bh2 (oh2 + i * 4 + 2))] ?_
   refine runL_ldG (b := bh2) (o' := oh2 + i * 4 + 2) 86 22 (cs := [U y2]) 0 (U y2) (one_g hy2) ?_
   refine runL_bn [0] [(87, U (IntKind.u64.wrap (y2 + 1)))] ?_
   refine runL_idxR (b := bh2) (off := oh2) (len := (((clerkAsk c a).1).queue.wait).length) (cap := c7) (ik := .i64) 88 47 4 i ha2 (by omega) ?_
   refine runL_bn [0] [(89, Pt bh2 (oh2 + i * 4 + 2))] ?_
   have hck4 := C2.updI hck3 hy2 (IntKind.u64.wrap (y2 + 1))
   have hle2 := le_upd hle1_ hn2 (U (IntKind.u64.wrap (y2 + 1)))
   refine runL_stT (U (IntKind.u64.wrap (y2 + 1))) (U y2) hy2 (out_le hg0_ hn2) ?_
   refine runL_nil (tq_block (tq_then (tc_region ?_)))
   refine runL_bn [0,0] [(77, I (IntKind.i64.wrap ((i : Int) + 1)))] ?_
   refine runL_wi64 77 ((i : Int) + 1) (by first | omega | (have q_ := hxw.1; (try simp only [List.length_set]); omega)) ?_
   refine runL_nil ?_
   exact tq_rnd (i + 1, (Mem.upd g1_ bh2 (oh2 + i * 4 + 2) (U (IntKind.u64.wrap (y2 + 1))))) ⟨hle2, (by omega), hck4⟩ (by (try dsimp only); omega)
  ·
   refine tc_exit (tq_then_exit (tq_rnd_exit (tq_block_here (tq_then ?_))))
   refine tc_rbn [0,2,0,0] [(92, Sl a9 ((((clerkAsk c a).1).books).length) c9), (93, I ((((clerkAsk c a).1).books).length : Int)), (94, I 0)] (tc_block ?_)
   have hlm_hs9_1 : (((clerkAsk c a).1).books).length ≤ 9223372036854775807 := Nat.le_trans (hs9.1).le (hs9.1).max
   refine tc_loop (σ := Nat × Mem) (fun q_ => (Mem.le G1 q_.2) ∧ (q_.1 ≤ (((clerkAsk c a).1).books).length) ∧ (C2 G1 q_.2 (⟨a7, ((clerkAsk c a).1).queue.wait.length, a8, ((clerkAsk c a).1).heads.length, a9, ((clerkAsk c a).1).books.length⟩ : CA) (⟨a10, ((clerkTick c).1).queue.wait.length, a11, ((clerkTick c).1).heads.length, a12, ((clerkTick c).1).books.length⟩ : CA) (140737488351232 + 1000 * q_.1))) (fun q_ => [(3, Pt b1 0), (7, Pt b3 0), (14, Sl a13 (((clerkBook c epoch).1).length) c13), (16, Bo (decide (c = c))), (53, .agg #[I (((clerkAsk c a).1).queue.most), Sl a7 ((((clerkAsk c a).1).queue.wait).length) c7, I (((clerkAsk c a).1).batch), I (((clerkAsk c a).1).every), I (((clerkAsk c a).1).now), Sl a8 ((((clerkAsk c a).1).heads).length) c8, Sl a9 ((((clerkAsk c a).1).books).length) c9, I (((clerkTick c).1).queue.most), Sl a10 ((((clerkTick c).1).queue.wait).length) c10, I (((clerkTick c).1).batch), I (((clerkTick c).1).every), I (((clerkTick c).1).now), Sl a11 ((((clerkTick c).1).heads).length) c11, Sl a12 ((((clerkTick c).1).books).length) c12]), (54, I 0), (92, Sl a9 ((((clerkAsk c a).1).books).length) c9), (93, I ((((clerkAsk c a).1).books).length : Int)), (94, I (q_.1 : Int))]) (fun q_ => q_.2) (fun q_ => [[Sg b6 0 [I (((clerkAsk c a).1).queue.most), Sl a7 ((((clerkAsk c a).1).queue.wait).length) c7, I (((clerkAsk c a).1).batch), I (((clerkAsk c a).1).every), I (((clerkAsk c a).1).now), Sl a8 ((((clerkAsk c a).1).heads).length) c8, Sl a9 ((((clerkAsk c a).1).books).length) c9]], r1, [Sg b5 0 [I (((clerkTick c).1).queue.most), Sl a10 ((((clerkTick c).1).queue.wait).length) c10, I (((clerkTick c).1).batch), I (((clerkTick c).1).every), I (((clerkTick c).1).now), Sl a11 ((((clerkTick c).1).heads).length) c11, Sl a12 ((((clerkTick c).1).books).length) c12]], [Sg b4 0 [I (((clerkAsk c a).1).queue.most), Sl a7 ((((clerkAsk c a).1).queue.wait).length) c7, I (((clerkAsk c a).1).batch), I (((clerkAsk c a).1).every), I (((clerkAsk c a).1).now), Sl a8 ((((clerkAsk c a).1).heads).length) c8, Sl a9 ((((clerkAsk c a).1).books).length) c9]], [Sg b3 0 [I c.queue.most, Sl a4 c.queue.wait.length c4, I c.batch, I c.every, I c.now, Sl a5 c.heads.length c5, Sl a6 c.books.length c6]], [Sg b2 0 [Sr a.name, Sr a.value, U a.n, U a.tag]], [Sg b1 0 [I c.queue.most, Sl a1 c.queue.wait.length c1, I c.batch, I c.every, I c.now, Sl a2 c.heads.length c2, Sl a3 c.books.length c3]]]) (fun q_ => (((clerkAsk c a).1).books).length - q_.1) (0, g1_) ⟨hle1_, (by (try dsimp only); first | exact Nat.zero_le _ | omega | simp), (C2.wk hck3 (by omega))⟩ (fun q_ hs => ?_)
   obtain ⟨k, g2_⟩ := q_
   obtain ⟨hle2_, hi, hck5⟩ := hs
   dsimp only at hle2_ hi hck5
   refine tc_eq (fr' := [(3, Pt b1 0), (7, Pt b3 0), (14, Sl a13 (((clerkBook c epoch).1).length) c13), (16, Bo (decide (c = c))), (53, .agg #[I (((clerkAsk c a).1).queue.most), Sl a7 ((((clerkAsk c a).1).queue.wait).length) c7, I (((clerkAsk c a).1).batch), I (((clerkAsk c a).1).every), I (((clerkAsk c a).1).now), Sl a8 ((((clerkAsk c a).1).heads).length) c8, Sl a9 ((((clerkAsk c a).1).books).length) c9, I (((clerkTick c).1).queue.most), Sl a10 ((((clerkTick c).1).queue.wait).length) c10, I (((clerkTick c).1).batch), I (((clerkTick c).1).every), I (((clerkTick c).1).now), Sl a11 ((((clerkTick c).1).heads).length) c11, Sl a12 ((((clerkTick c).1).books).length) c12]), (54, I 0), (92, Sl a9 ((((clerkAsk c a).1).books).length) c9), (93, I ((((clerkAsk c a).1).books).length : Int)), (94, I (k : Int))]) (L' := [[Sg b6 0 [I (((clerkAsk c a).1).queue.most), Sl a7 ((((clerkAsk c a).1).queue.wait).length) c7, I (((clerkAsk c a).1).batch), I (((clerkAsk c a).1).every), I (((clerkAsk c a).1).now), Sl a8 ((((clerkAsk c a).1).heads).length) c8, Sl a9 ((((clerkAsk c a).1).books).length) c9]], r1, [Sg b5 0 [I (((clerkTick c).1).queue.most), Sl a10 ((((clerkTick c).1).queue.wait).length) c10, I (((clerkTick c).1).batch), I (((clerkTick c).1).every), I (((clerkTick c).1).now), Sl a11 ((((clerkTick c).1).heads).length) c11, Sl a12 ((((clerkTick c).1).books).length) c12]], [Sg b4 0 [I (((clerkAsk c a).1).queue.most), Sl a7 ((((clerkAsk c a).1).queue.wait).length) c7, I (((clerkAsk c a).1).batch), I (((clerkAsk c a).1).every), I (((clerkAsk c a).1).now), Sl a8 ((((clerkAsk c a).1).heads).length) c8, Sl a9 ((((clerkAsk c a).1).books).length) c9]], [Sg b3 0 [I c.queue.most, Sl a4 c.queue.wait.length c4, I c.batch, I c.every, I c.now, Sl a5 c.heads.length c5, Sl a6 c.books.length c6]], [Sg b2 0 [Sr a.name, Sr a.value, U a.n, U a.tag]], [Sg b1 0 [I c.queue.most, Sl a1 c.queue.wait.length c1, I c.batch, I c.every, I c.now, Sl a2 c.heads.length c2, Sl a3 c.books.length c3]]]) rfl rfl ?_
   refine tc_rbn [0] [(95, Bo (decide ((k : Int) < ((((clerkAsk c a).1).books).length : Int))))] (tc_seq ?_)
   refine tc_condP (decide ((k : Int) < ((((clerkAsk c a).1).books).length : Int))) (fun h3 => ?_) (fun h3 => ?_)
   ·
    refine tc_skip (tq_then (tc_seq (tc_block (tc_seq (tc_region ?_)))))
    obtain ⟨bb1, ob1, ha3, a14, n1, c14, hc1, hsr1, hn3⟩ := COk.book hck5.1 (k := k) (show k < (((clerkAsk c a).1).books).length by omega)
    refine runL_idxR (b := bb1) (off := ob1) (len := (((clerkAsk c a).1).books).length) (cap := c9) (ik := .i64) 96 25 1 k ha3 (by omega) ?_
    refine runL_ldG (b := bb1) (o' := ob1 + k * 1) 97 25 (cs := [Sl a14 n1 c14]) 0 (Sl a14 n1 c14) (one_g hc1) ?_
    refine runL_bn [0] [(22, Sl a14 n1 c14)] (runL_nil (tq_then ?_))
    refine tc_rbn [0,0,0] [(99, I (n1 : Int)), (100, I 0)] (tc_block ?_)
    have hlm_hs9_1 : (((clerkAsk c a).1).books).length ≤ 9223372036854775807 := Nat.le_trans (hs9.1).le (hs9.1).max
    refine tc_loop (σ := Nat × Mem) (fun q_ => (Mem.le G1 q_.2) ∧ (q_.1 ≤ n1) ∧ (C2 G1 q_.2 (⟨a7, ((clerkAsk c a).1).queue.wait.length, a8, ((clerkAsk c a).1).heads.length, a9, ((clerkAsk c a).1).books.length⟩ : CA) (⟨a10, ((clerkTick c).1).queue.wait.length, a11, ((clerkTick c).1).heads.length, a12, ((clerkTick c).1).books.length⟩ : CA) (140737488351232 + 1000 * k + q_.1)) ∧ (SR G1 q_.2 a14 n1 (140737488351232 + 1000 * k + q_.1))) (fun q_ => [(3, Pt b1 0), (7, Pt b3 0), (14, Sl a13 (((clerkBook c epoch).1).length) c13), (16, Bo (decide (c = c))), (22, Sl a14 n1 c14), (53, .agg #[I (((clerkAsk c a).1).queue.most), Sl a7 ((((clerkAsk c a).1).queue.wait).length) c7, I (((clerkAsk c a).1).batch), I (((clerkAsk c a).1).every), I (((clerkAsk c a).1).now), Sl a8 ((((clerkAsk c a).1).heads).length) c8, Sl a9 ((((clerkAsk c a).1).books).length) c9, I (((clerkTick c).1).queue.most), Sl a10 ((((clerkTick c).1).queue.wait).length) c10, I (((clerkTick c).1).batch), I (((clerkTick c).1).every), I (((clerkTick c).1).now), Sl a11 ((((clerkTick c).1).heads).length) c11, Sl a12 ((((clerkTick c).1).books).length) c12]), (54, I 0), (92, Sl a9 ((((clerkAsk c a).1).books).length) c9), (93, I ((((clerkAsk c a).1).books).length : Int)), (94, I (k : Int)), (99, I (n1 : Int)), (100, I (q_.1 : Int))]) (fun q_ => q_.2) (fun q_ => [[Sg b6 0 [I (((clerkAsk c a).1).queue.most), Sl a7 ((((clerkAsk c a).1).queue.wait).length) c7, I (((clerkAsk c a).1).batch), I (((clerkAsk c a).1).every), I (((clerkAsk c a).1).now), Sl a8 ((((clerkAsk c a).1).heads).length) c8, Sl a9 ((((clerkAsk c a).1).books).length) c9]], r1, [Sg b5 0 [I (((clerkTick c).1).queue.most), Sl a10 ((((clerkTick c).1).queue.wait).length) c10, I (((clerkTick c).1).batch), I (((clerkTick c).1).every), I (((clerkTick c).1).now), Sl a11 ((((clerkTick c).1).heads).length) c11, Sl a12 ((((clerkTick c).1).books).length) c12]], [Sg b4 0 [I (((clerkAsk c a).1).queue.most), Sl a7 ((((clerkAsk c a).1).queue.wait).length) c7, I (((clerkAsk c a).1).batch), I (((clerkAsk c a).1).every), I (((clerkAsk c a).1).now), Sl a8 ((((clerkAsk c a).1).heads).length) c8, Sl a9 ((((clerkAsk c a).1).books).length) c9]], [Sg b3 0 [I c.queue.most, Sl a4 c.queue.wait.length c4, I c.batch, I c.every, I c.now, Sl a5 c.heads.length c5, Sl a6 c.books.length c6]], [Sg b2 0 [Sr a.name, Sr a.value, U a.n, U a.tag]], [Sg b1 0 [I c.queue.most, Sl a1 c.queue.wait.length c1, I c.batch, I c.every, I c.now, Sl a2 c.heads.length c2, Sl a3 c.books.length c3]]]) (fun q_ => n1 - q_.1) (0, g2_) ⟨hle2_, (by (try dsimp only); first | exact Nat.zero_le _ | omega | simp), (C2.wk hck5 (by omega)), (SR.wk hsr1 (by omega))⟩ (fun q_ hs => ?_)
    obtain ⟨j, g3_⟩ := q_
    obtain ⟨hle3_, hi, hck6, hsr2⟩ := hs
    dsimp only at hle3_ hi hck6 hsr2
    refine tc_eq (fr' := [(3, Pt b1 0), (7, Pt b3 0), (14, Sl a13 (((clerkBook c epoch).1).length) c13), (16, Bo (decide (c = c))), (22, Sl a14 n1 c14), (53, .agg #[I (((clerkAsk c a).1).queue.most), Sl a7 ((((clerkAsk c a).1).queue.wait).length) c7, I (((clerkAsk c a).1).batch), I (((clerkAsk c a).1).every), I (((clerkAsk c a).1).now), Sl a8 ((((clerkAsk c a).1).heads).length) c8, Sl a9 ((((clerkAsk c a).1).books).length) c9, I (((clerkTick c).1).queue.most), Sl a10 ((((clerkTick c).1).queue.wait).length) c10, I (((clerkTick c).1).batch), I (((clerkTick c).1).every), I (((clerkTick c).1).now), Sl a11 ((((clerkTick c).1).heads).length) c11, Sl a12 ((((clerkTick c).1).books).length) c12]), (54, I 0), (92, Sl a9 ((((clerkAsk c a).1).books).length) c9), (93, I ((((clerkAsk c a).1).books).length : Int)), (94, I (k : Int)), (99, I (n1 : Int)), (100, I (j : Int))]) (L' := [[Sg b6 0 [I (((clerkAsk c a).1).queue.most), Sl a7 ((((clerkAsk c a).1).queue.wait).length) c7, I (((clerkAsk c a).1).batch), I (((clerkAsk c a).1).every), I (((clerkAsk c a).1).now), Sl a8 ((((clerkAsk c a).1).heads).length) c8, Sl a9 ((((clerkAsk c a).1).books).length) c9]], r1, [Sg b5 0 [I (((clerkTick c).1).queue.most), Sl a10 ((((clerkTick c).1).queue.wait).length) c10, I (((clerkTick c).1).batch), I (((clerkTick c).1).every), I (((clerkTick c).1).now), Sl a11 ((((clerkTick c).1).heads).length) c11, Sl a12 ((((clerkTick c).1).books).length) c12]], [Sg b4 0 [I (((clerkAsk c a).1).queue.most), Sl a7 ((((clerkAsk c a).1).queue.wait).length) c7, I (((clerkAsk c a).1).batch), I (((clerkAsk c a).1).every), I (((clerkAsk c a).1).now), Sl a8 ((((clerkAsk c a).1).heads).length) c8, Sl a9 ((((clerkAsk c a).1).books).length) c9]], [Sg b3 0 [I c.queue.most, Sl a4 c.queue.wait.length c4, I c.batch, I c.every, I c.now, Sl a5 c.heads.length c5, Sl a6 c.books.length c6]], [Sg b2 0 [Sr a.name, Sr a.value, U a.n, U a.tag]], [Sg b1 0 [I c.queue.most, Sl a1 c.queue.wait.length c1, I c.batch, I c.every, I c.now, Sl a2 c.heads.length c2, Sl a3 c.books.length c3]]]) rfl rfl ?_
    refine tc_rbn [0] [(101, Bo (decide ((j : Int) < (n1 : Int))))] (tc_seq ?_)
    refine tc_condP (decide ((j : Int) < (n1 : Int))) (fun h4 => ?_) (fun h4 => ?_)
    ·
     refine tc_skip (tq_then (tc_seq (tc_block ?_)))
     refine tc_rbn [0,0] [(23, I (j : Int))] (tc_region ?_)
     refine runL_bn [0,0] [(103, Sl a14 n1 c14), (104, I (j : Int))] ?_
     obtain ⟨be1, oe1, ha4, ⟨s1, hy3, hsl1⟩, hn4⟩ := SR.addr hsr2 (k := j) (by omega)
     refine runL_idxR (b := be1) (off := oe1) (len := n1) (cap := c14) (ik := .i64) 105 58 2 j ha4 (by omega) ?_
     refine runL_bn [0] [(106, Pt be1 (oe1 + j * 2 + 1))] ?_
     refine runL_ldG (b := be1) (o' := oe1 + j * 2 + 1) 107 9 (cs := [Sr s1]) 0 (Sr s1) (one_g hy3) ?_
     refine runL_cat 108 s1 ([33]) (by first | omega | (simp only [List.length_cons, List.length_nil]; omega) | (have q_ := hxw.2 _ (Nat.le_refl _) _ (by assumption); simp only [List.length_cons, List.length_nil]; omega)) ?_
     refine runL_idxR (b := be1) (off := oe1) (len := n1) (cap := c14) (ik := .i64) 109 58 2 j ha4 (by omega) ?_
     refine runL_bn [0] [(110, Pt be1 (oe1 + j * 2 + 1))] ?_
     have hck7 := C2.updS (m' := 140737488351232 + 1000 * k + (j + 1)) hck6 hy3 (t := s1 ++ ([33])) (by simp only [List.length_append, List.length_cons, List.length_nil]; omega) (by omega)
     have hsr3 := SR.updS (m' := 140737488351232 + 1000 * k + (j + 1)) (b := be1) (o := oe1 + j * 2 + 1) hsr2 (t := s1 ++ ([33])) (by simp only [List.length_append, List.length_cons, List.length_nil]; omega) (by omega)
     have hle3 := le_upd hle3_ hn4 (Sr (s1 ++ ([33])))
     refine runL_stT (Sr (s1 ++ ([33]))) (Sr s1) hy3 (out_le hg0_ hn4) ?_
     refine runL_nil (tq_block (tq_then (tc_region ?_)))
     refine runL_bn [0,0] [(100, I (IntKind.i64.wrap ((j : Int) + 1)))] ?_
     refine runL_wi64 100 ((j : Int) + 1) (by first | omega | (have q_ := hxw.1; (try simp only [List.length_set]); omega)) ?_
     refine runL_nil ?_
     exact tq_rnd (j + 1, (Mem.upd g3_ be1 (oe1 + j * 2 + 1) (Sr (s1 ++ ([33]))))) ⟨hle3, (by omega), hck7, hsr3⟩ (by (try dsimp only); omega)
    ·
     refine tc_exit (tq_then_exit (tq_rnd_exit (tq_block_here (tq_block (tq_then (tc_region ?_))))))
     refine runL_bn [0,0] [(94, I (IntKind.i64.wrap ((k : Int) + 1)))] ?_
     refine runL_wi64 94 ((k : Int) + 1) (by first | omega | (have q_ := hxw.1; (try simp only [List.length_set]); omega)) ?_
     refine runL_nil ?_
     exact tq_rnd (k + 1, g3_) ⟨hle3_, (by omega), (C2.wk hck6 (by omega))⟩ (by (try dsimp only); omega)
   ·
    refine tc_exit (tq_then_exit (tq_rnd_exit (tq_block_here (tq_block (tq_then (tc_region ?_))))))
    refine runL_bn [0,0] [(54, I 1)] (runL_nil ?_)
    refine tq_iter ?_
    refine ti_step ?_
    refine tc_rbn [0] [(55, Bo true)] (tc_seq ?_)
    refine tc_cond_true ?_
    refine tc_skip (tq_then (tc_seq (tc_block (tc_seq (tc_region ?_)))))
    refine runL_p1 56 (.agg #[I (((clerkTick c).1).queue.most), Sl a10 ((((clerkTick c).1).queue.wait).length) c10, I (((clerkTick c).1).batch), I (((clerkTick c).1).every), I (((clerkTick c).1).now), Sl a11 ((((clerkTick c).1).heads).length) c11, Sl a12 ((((clerkTick c).1).books).length) c12]) (.agg #[I (((clerkTick c).1).queue.most), Sl a10 ((((clerkTick c).1).queue.wait).length) c10, I (((clerkTick c).1).batch), I (((clerkTick c).1).every), I (((clerkTick c).1).now), Sl a11 ((((clerkTick c).1).heads).length) c11, Sl a12 ((((clerkTick c).1).books).length) c12]) rfl ?_
    refine runL_box 18 #[I 0, Sl none 0 0, I 0, I 0, I 0, Sl none 0 0, Sl none 0 0] 45 (fun b7 => ?_)
    refine runL_bsn [3] [] [[Sg b7 0 [I (((clerkTick c).1).queue.most), Sl a10 ((((clerkTick c).1).queue.wait).length) c10, I (((clerkTick c).1).batch), I (((clerkTick c).1).every), I (((clerkTick c).1).now), Sl a11 ((((clerkTick c).1).heads).length) c11, Sl a12 ((((clerkTick c).1).books).length) c12]], [Sg b6 0 [I (((clerkAsk c a).1).queue.most), Sl a7 ((((clerkAsk c a).1).queue.wait).length) c7, I (((clerkAsk c a).1).batch), I (((clerkAsk c a).1).every), I (((clerkAsk c a).1).now), Sl a8 ((((clerkAsk c a).1).heads).length) c8, Sl a9 ((((clerkAsk c a).1).books).length) c9]], r1, [Sg b5 0 [I (((clerkTick c).1).queue.most), Sl a10 ((((clerkTick c).1).queue.wait).length) c10, I (((clerkTick c).1).batch), I (((clerkTick c).1).every), I (((clerkTick c).1).now), Sl a11 ((((clerkTick c).1).heads).length) c11, Sl a12 ((((clerkTick c).1).books).length) c12]], [Sg b4 0 [I (((clerkAsk c a).1).queue.most), Sl a7 ((((clerkAsk c a).1).queue.wait).length) c7, I (((clerkAsk c a).1).batch), I (((clerkAsk c a).1).every), I (((clerkAsk c a).1).now), Sl a8 ((((clerkAsk c a).1).heads).length) c8, Sl a9 ((((clerkAsk c a).1).books).length) c9]], [Sg b3 0 [I c.queue.most, Sl a4 c.queue.wait.length c4, I c.batch, I c.every, I c.now, Sl a5 c.heads.length c5, Sl a6 c.books.length c6]], [Sg b2 0 [Sr a.name, Sr a.value, U a.n, U a.tag]], [Sg b1 0 [I c.queue.most, Sl a1 c.queue.wait.length c1, I c.batch, I c.every, I c.now, Sl a2 c.heads.length c2, Sl a3 c.books.length c3]]] (runL_nil (tq_then (tc_seq ?_)))
    refine tc_rbn [0,2,0,0] [(59, I ((((clerkTick c).1).heads).length : Int)), (60, I 0)] (tc_block ?_)
    refine tc_loop (σ := Nat × Mem) (fun q_ => (Mem.le G1 q_.2) ∧ (q_.1 ≤ (((clerkTick c).1).heads).length) ∧ (C2 G1 q_.2 (⟨a7, ((clerkAsk c a).1).queue.wait.length, a8, ((clerkAsk c a).1).heads.length, a9, ((clerkAsk c a).1).books.length⟩ : CA) (⟨a10, ((clerkTick c).1).queue.wait.length, a11, ((clerkTick c).1).heads.length, a12, ((clerkTick c).1).books.length⟩ : CA) 140737489351232)) (fun q_ => [(3, Pt b1 0), (7, Pt b3 0), (14, Sl a13 (((clerkBook c epoch).1).length) c13), (16, Bo (decide (c = c))), (18, Pt b7 0), (53, .agg #[I (((clerkAsk c a).1).queue.most), Sl a7 ((((clerkAsk c a).1).queue.wait).length) c7, I (((clerkAsk c a).1).batch), I (((clerkAsk c a).1).every), I (((clerkAsk c a).1).now), Sl a8 ((((clerkAsk c a).1).heads).length) c8, Sl a9 ((((clerkAsk c a).1).books).length) c9, I (((clerkTick c).1).queue.most), Sl a10 ((((clerkTick c).1).queue.wait).length) c10, I (((clerkTick c).1).batch), I (((clerkTick c).1).every), I (((clerkTick c).1).now), Sl a11 ((((clerkTick c).1).heads).length) c11, Sl a12 ((((clerkTick c).1).books).length) c12]), (54, I 1), (59, I ((((clerkTick c).1).heads).length : Int)), (60, I (q_.1 : Int))]) (fun q_ => q_.2) (fun q_ => [[Sg b7 0 [I (((clerkTick c).1).queue.most), Sl a10 ((((clerkTick c).1).queue.wait).length) c10, I (((clerkTick c).1).batch), I (((clerkTick c).1).every), I (((clerkTick c).1).now), Sl a11 ((((clerkTick c).1).heads).length) c11, Sl a12 ((((clerkTick c).1).books).length) c12]], [Sg b6 0 [I (((clerkAsk c a).1).queue.most), Sl a7 ((((clerkAsk c a).1).queue.wait).length) c7, I (((clerkAsk c a).1).batch), I (((clerkAsk c a).1).every), I (((clerkAsk c a).1).now), Sl a8 ((((clerkAsk c a).1).heads).length) c8, Sl a9 ((((clerkAsk c a).1).books).length) c9]], r1, [Sg b5 0 [I (((clerkTick c).1).queue.most), Sl a10 ((((clerkTick c).1).queue.wait).length) c10, I (((clerkTick c).1).batch), I (((clerkTick c).1).every), I (((clerkTick c).1).now), Sl a11 ((((clerkTick c).1).heads).length) c11, Sl a12 ((((clerkTick c).1).books).length) c12]], [Sg b4 0 [I (((clerkAsk c a).1).queue.most), Sl a7 ((((clerkAsk c a).1).queue.wait).length) c7, I (((clerkAsk c a).1).batch), I (((clerkAsk c a).1).every), I (((clerkAsk c a).1).now), Sl a8 ((((clerkAsk c a).1).heads).length) c8, Sl a9 ((((clerkAsk c a).1).books).length) c9]], [Sg b3 0 [I c.queue.most, Sl a4 c.queue.wait.length c4, I c.batch, I c.every, I c.now, Sl a5 c.heads.length c5, Sl a6 c.books.length c6]], [Sg b2 0 [Sr a.name, Sr a.value, U a.n, U a.tag]], [Sg b1 0 [I c.queue.most, Sl a1 c.queue.wait.length c1, I c.batch, I c.every, I c.now, Sl a2 c.heads.length c2, Sl a3 c.books.length c3]]]) (fun q_ => (((clerkTick c).1).heads).length - q_.1) (0, g2_) ⟨hle2_, (by (try dsimp only); first | exact Nat.zero_le _ | omega | simp), (C2.wk hck5 (by omega))⟩ (fun q_ hs => ?_)
    obtain ⟨i, g3_⟩ := q_
    obtain ⟨hle3_, hi, hck8⟩ := hs
    dsimp only at hle3_ hi hck8
    refine tc_eq (fr' := [(3, Pt b1 0), (7, Pt b3 0), (14, Sl a13 (((clerkBook c epoch).1).length) c13), (16, Bo (decide (c = c))), (18, Pt b7 0), (53, .agg #[I (((clerkAsk c a).1).queue.most), Sl a7 ((((clerkAsk c a).1).queue.wait).length) c7, I (((clerkAsk c a).1).batch), I (((clerkAsk c a).1).every), I (((clerkAsk c a).1).now), Sl a8 ((((clerkAsk c a).1).heads).length) c8, Sl a9 ((((clerkAsk c a).1).books).length) c9, I (((clerkTick c).1).queue.most), Sl a10 ((((clerkTick c).1).queue.wait).length) c10, I (((clerkTick c).1).batch), I (((clerkTick c).1).every), I (((clerkTick c).1).now), Sl a11 ((((clerkTick c).1).heads).length) c11, Sl a12 ((((clerkTick c).1).books).length) c12]), (54, I 1), (59, I ((((clerkTick c).1).heads).length : Int)), (60, I (i : Int))]) (L' := [[Sg b7 0 [I (((clerkTick c).1).queue.most), Sl a10 ((((clerkTick c).1).queue.wait).length) c10, I (((clerkTick c).1).batch), I (((clerkTick c).1).every), I (((clerkTick c).1).now), Sl a11 ((((clerkTick c).1).heads).length) c11, Sl a12 ((((clerkTick c).1).books).length) c12]], [Sg b6 0 [I (((clerkAsk c a).1).queue.most), Sl a7 ((((clerkAsk c a).1).queue.wait).length) c7, I (((clerkAsk c a).1).batch), I (((clerkAsk c a).1).every), I (((clerkAsk c a).1).now), Sl a8 ((((clerkAsk c a).1).heads).length) c8, Sl a9 ((((clerkAsk c a).1).books).length) c9]], r1, [Sg b5 0 [I (((clerkTick c).1).queue.most), Sl a10 ((((clerkTick c).1).queue.wait).length) c10, I (((clerkTick c).1).batch), I (((clerkTick c).1).every), I (((clerkTick c).1).now), Sl a11 ((((clerkTick c).1).heads).length) c11, Sl a12 ((((clerkTick c).1).books).length) c12]], [Sg b4 0 [I (((clerkAsk c a).1).queue.most), Sl a7 ((((clerkAsk c a).1).queue.wait).length) c7, I (((clerkAsk c a).1).batch), I (((clerkAsk c a).1).every), I (((clerkAsk c a).1).now), Sl a8 ((((clerkAsk c a).1).heads).length) c8, Sl a9 ((((clerkAsk c a).1).books).length) c9]], [Sg b3 0 [I c.queue.most, Sl a4 c.queue.wait.length c4, I c.batch, I c.every, I c.now, Sl a5 c.heads.length c5, Sl a6 c.books.length c6]], [Sg b2 0 [Sr a.name, Sr a.value, U a.n, U a.tag]], [Sg b1 0 [I c.queue.most, Sl a1 c.queue.wait.length c1, I c.batch, I c.every, I c.now, Sl a2 c.heads.length c2, Sl a3 c.books.length c3]]]) rfl rfl ?_
    refine tc_rbn [0] [(61, Bo (decide ((i : Int) < ((((clerkTick c).1).heads).length : Int))))] (tc_seq ?_)
    refine tc_condP (decide ((i : Int) < ((((clerkTick c).1).heads).length : Int))) (fun h5 => ?_) (fun h5 => ?_)
    ·
     refine tc_skip (tq_then (tc_seq (tc_block ?_)))
     refine tc_rbn [0,0] [(19, I (i : Int))] (tc_region ?_)
     refine runL_bn [0,2,0] [(64, Sl a11 ((((clerkTick c).1).heads).length) c11), (65, I (i : Int))] ?_
     obtain ⟨bh3, oh3, ha5, ⟨y3, hy4⟩, hn5⟩ := IR.cell hck8.2.h (k := i) (show i < (((clerkTick c).1).heads).length by omega)
     have hy4 : g3_ bh3 (oh3 + i * 4 + 3) = some (I y3) := hy4
     have hn5 : G1 bh3 (oh3 + i * 4 + 3) = none := hn5
     refine runL_idxR (b := bh3) (off := oh3) (len := (((clerkTick c).1).heads).length) (cap := c11) (ik := .i64) 66 24 4 i ha5 (by omega) ?_
     refine runL_bn [0] [(67, Pt bh3 (oh3 + i * 4 + 3))] ?_
     refine runL_ldG (b := bh3) (o' := oh3 + i * 4 + 3) 68 2 (cs := [I y3]) 0 (I y3) (one_g hy4) ?_
     refine runL_bn [0] [(69, I (IntKind.i64.wrap (y3 + 1)))] ?_
     refine runL_idxR (b := bh3) (off := oh3) (len := (((clerkTick c).1).heads).length) (cap := c11) (ik := .i64) 70 24 4 i ha5 (by omega) ?_
     refine runL_bn [0] [(71, Pt bh3 (oh3 + i * 4 + 3))] ?_
     have hck9 := C2.updI hck8 hy4 (IntKind.i64.wrap (y3 + 1))
     have hle4 := le_upd hle3_ hn5 (I (IntKind.i64.wrap (y3 + 1)))
     refine runL_stT (I (IntKind.i64.wrap (y3 + 1))) (I y3) hy4 (out_le hg0_ hn5) ?_
     refine runL_nil (tq_block (tq_then (tc_region ?_)))
     refine runL_bn [0,0] [(60, I (IntKind.i64.wrap ((i : Int) + 1)))] ?_
     refine runL_wi64 60 ((i : Int) + 1) (by first | omega | (have q_ := hxw.1; (try simp only [List.length_set]); omega)) ?_
     refine runL_nil ?_
     exact tq_rnd (i + 1, (Mem.upd g3_ bh3 (oh3 + i * 4 + 3) (I (IntKind.i64.wrap (y3 + 1))))) ⟨hle4, (by omega), hck9⟩ (by (try dsimp only); omega)
    ·
     refine tc_exit (tq_then_exit (tq_rnd_exit (tq_block_here (tq_then (tc_seq ?_)))))
     refine tc_rbn [0,0,2,0,0] [(76, I ((((clerkTick c).1).queue.wait).length : Int)), (77, I 0)] (tc_block ?_)
     refine tc_loop (σ := Nat × Mem) (fun q_ => (Mem.le G1 q_.2) ∧ (q_.1 ≤ (((clerkTick c).1).queue.wait).length) ∧ (C2 G1 q_.2 (⟨a7, ((clerkAsk c a).1).queue.wait.length, a8, ((clerkAsk c a).1).heads.length, a9, ((clerkAsk c a).1).books.length⟩ : CA) (⟨a10, ((clerkTick c).1).queue.wait.length, a11, ((clerkTick c).1).heads.length, a12, ((clerkTick c).1).books.length⟩ : CA) 140737489351232)) (fun q_ => [(3, Pt b1 0), (7, Pt b3 0), (14, Sl a13 (((clerkBook c epoch).1).length) c13), (16, Bo (decide (c = c))), (18, Pt b7 0), (53, .agg #[I (((clerkAsk c a).1).queue.most), Sl a7 ((((clerkAsk c a).1).queue.wait).length) c7, I (((clerkAsk c a).1).batch), I (((clerkAsk c a).1).every), I (((clerkAsk c a).1).now), Sl a8 ((((clerkAsk c a).1).heads).length) c8, Sl a9 ((((clerkAsk c a).1).books).length) c9, I (((clerkTick c).1).queue.most), Sl a10 ((((clerkTick c).1).queue.wait).length) c10, I (((clerkTick c).1).batch), I (((clerkTick c).1).every), I (((clerkTick c).1).now), Sl a11 ((((clerkTick c).1).heads).length) c11, Sl a12 ((((clerkTick c).1).books).length) c12]), (54, I 1), (76, I ((((clerkTick c).1).queue.wait).length : Int)), (77, I (q_.1 : Int))]) (fun q_ => q_.2) (fun q_ => [[Sg b7 0 [I (((clerkTick c).1).queue.most), Sl a10 ((((clerkTick c).1).queue.wait).length) c10, I (((clerkTick c).1).batch), I (((clerkTick c).1).every), I (((clerkTick c).1).now), Sl a11 ((((clerkTick c).1).heads).length) c11, Sl a12 ((((clerkTick c).1).books).length) c12]], [Sg b6 0 [I (((clerkAsk c a).1).queue.most), Sl a7 ((((clerkAsk c a).1).queue.wait).length) c7, I (((clerkAsk c a).1).batch), I (((clerkAsk c a).1).every), I (((clerkAsk c a).1).now), Sl a8 ((((clerkAsk c a).1).heads).length) c8, Sl a9 ((((clerkAsk c a).1).books).length) c9]], r1, [Sg b5 0 [I (((clerkTick c).1).queue.most), Sl a10 ((((clerkTick c).1).queue.wait).length) c10, I (((clerkTick c).1).batch), I (((clerkTick c).1).every), I (((clerkTick c).1).now), Sl a11 ((((clerkTick c).1).heads).length) c11, Sl a12 ((((clerkTick c).1).books).length) c12]], [Sg b4 0 [I (((clerkAsk c a).1).queue.most), Sl a7 ((((clerkAsk c a).1).queue.wait).length) c7, I (((clerkAsk c a).1).batch), I (((clerkAsk c a).1).every), I (((clerkAsk c a).1).now), Sl a8 ((((clerkAsk c a).1).heads).length) c8, Sl a9 ((((clerkAsk c a).1).books).length) c9]], [Sg b3 0 [I c.queue.most, Sl a4 c.queue.wait.length c4, I c.batch, I c.every, I c.now, Sl a5 c.heads.length c5, Sl a6 c.books.length c6]], [Sg b2 0 [Sr a.name, Sr a.value, U a.n, U a.tag]], [Sg b1 0 [I c.queue.most, Sl a1 c.queue.wait.length c1, I c.batch, I c.every, I c.now, Sl a2 c.heads.length c2, Sl a3 c.books.length c3]]]) (fun q_ => (((clerkTick c).1).queue.wait).length - q_.1) (0, g3_) ⟨hle3_, (by (try dsimp only); first | exact Nat.zero_le _ | omega | simp), (C2.wk hck8 (by omega))⟩ (fun q_ hs => ?_)
     obtain ⟨i, g4_⟩ := q_
     obtain ⟨hle4_, hi, hck10⟩ := hs
     dsimp only at hle4_ hi hck10
     refine tc_eq (fr' := [(3, Pt b1 0), (7, Pt b3 0), (14, Sl a13 (((clerkBook c epoch).1).length) c13), (16, Bo (decide (c = c))), (18, Pt b7 0), (53, .agg #[I (((clerkAsk c a).1).queue.most), Sl a7 ((((clerkAsk c a).1).queue.wait).length) c7, I (((clerkAsk c a).1).batch), I (((clerkAsk c a).1).every), I (((clerkAsk c a).1).now), Sl a8 ((((clerkAsk c a).1).heads).length) c8, Sl a9 ((((clerkAsk c a).1).books).length) c9, I (((clerkTick c).1).queue.most), Sl a10 ((((clerkTick c).1).queue.wait).length) c10, I (((clerkTick c).1).batch), I (((clerkTick c).1).every), I (((clerkTick c).1).now), Sl a11 ((((clerkTick c).1).heads).length) c11, Sl a12 ((((clerkTick c).1).books).length) c12]), (54, I 1), (76, I ((((clerkTick c).1).queue.wait).length : Int)), (77, I (i : Int))]) (L' := [[Sg b7 0 [I (((clerkTick c).1).queue.most), Sl a10 ((((clerkTick c).1).queue.wait).length) c10, I (((clerkTick c).1).batch), I (((clerkTick c).1).every), I (((clerkTick c).1).now), Sl a11 ((((clerkTick c).1).heads).length) c11, Sl a12 ((((clerkTick c).1).books).length) c12]], [Sg b6 0 [I (((clerkAsk c a).1).queue.most), Sl a7 ((((clerkAsk c a).1).queue.wait).length) c7, I (((clerkAsk c a).1).batch), I (((clerkAsk c a).1).every), I (((clerkAsk c a).1).now), Sl a8 ((((clerkAsk c a).1).heads).length) c8, Sl a9 ((((clerkAsk c a).1).books).length) c9]], r1, [Sg b5 0 [I (((clerkTick c).1).queue.most), Sl a10 ((((clerkTick c).1).queue.wait).length) c10, I (((clerkTick c).1).batch), I (((clerkTick c).1).every), I (((clerkTick c).1).now), Sl a11 ((((clerkTick c).1).heads).length) c11, Sl a12 ((((clerkTick c).1).books).length) c12]], [Sg b4 0 [I (((clerkAsk c a).1).queue.most), Sl a7 ((((clerkAsk c a).1).queue.wait).length) c7, I (((clerkAsk c a).1).batch), I (((clerkAsk c a).1).every), I (((clerkAsk c a).1).now), Sl a8 ((((clerkAsk c a).1).heads).length) c8, Sl a9 ((((clerkAsk c a).1).books).length) c9]], [Sg b3 0 [I c.queue.most, Sl a4 c.queue.wait.length c4, I c.batch, I c.every, I c.now, Sl a5 c.heads.length c5, Sl a6 c.books.length c6]], [Sg b2 0 [Sr a.name, Sr a.value, U a.n, U a.tag]], [Sg b1 0 [I c.queue.most, Sl a1 c.queue.wait.length c1, I c.batch, I c.every, I c.now, Sl a2 c.heads.length c2, Sl a3 c.books.length c3]]]) rfl rfl ?_
     refine tc_rbn [0] [(78, Bo (decide ((i : Int) < ((((clerkTick c).1).queue.wait).length : Int))))] (tc_seq ?_)
     refine tc_condP (decide ((i : Int) < ((((clerkTick c).1).queue.wait).length : Int))) (fun h6 => ?_) (fun h6 => ?_)
     ·
      refine tc_skip (tq_then (tc_seq (tc_block ?_)))
      refine tc_rbn [0,0] [(20, I (i : Int))] (tc_region ?_)
      refine runL_bn [0,0,2,0] [(82, Sl a10 ((((clerkTick c).1).queue.wait).length) c10), (83, I (i : Int))] ?_
      obtain ⟨bh4, oh4, ha6, ⟨y4, hy5⟩, hn6⟩ := IR.cell hck10.2.q (k := i) (show i < (((clerkTick c).1).queue.wait).length by omega)
      have hy5 : g4_ bh4 (oh4 + i * 4 + 2) = some (U y4) := hy5
      have hn6 : G1 bh4 (oh4 + i * 4 + 2) = none := hn6
      refine runL_idxR (b := bh4) (off := oh4) (len := (((clerkTick c).1).queue.wait).length) (cap := c10) (ik := .i64) 84 47 4 i ha6 (by omega) ?_
      refine runL_bn [0] [(85, Pt bh4 (oh4 + i * 4 + 2))] ?_
      refine runL_ldG (b := bh4) (o' := oh4 + i * 4 + 2) 86 22 (cs := [U y4]) 0 (U y4) (one_g hy5) ?_
      refine runL_bn [0] [(87, U (IntKind.u64.wrap (y4 + 1)))] ?_
      refine runL_idxR (b := bh4) (off := oh4) (len := (((clerkTick c).1).queue.wait).length) (cap := c10) (ik := .i64) 88 47 4 i ha6 (by omega) ?_
      refine runL_bn [0] [(89, Pt bh4 (oh4 + i * 4 + 2))] ?_
      have hck11 := C2.updI hck10 hy5 (IntKind.u64.wrap (y4 + 1))
      have hle5 := le_upd hle4_ hn6 (U (IntKind.u64.wrap (y4 + 1)))
      refine runL_stT (U (IntKind.u64.wrap (y4 + 1))) (U y4) hy5 (out_le hg0_ hn6) ?_
      refine runL_nil (tq_block (tq_then (tc_region ?_)))
      refine runL_bn [0,0] [(77, I (IntKind.i64.wrap ((i : Int) + 1)))] ?_
      refine runL_wi64 77 ((i : Int) + 1) (by first | omega | (have q_ := hxw.1; (try simp only [List.length_set]); omega)) ?_
      refine runL_nil ?_
      exact tq_rnd (i + 1, (Mem.upd g4_ bh4 (oh4 + i * 4 + 2) (U (IntKind.u64.wrap (y4 + 1))))) ⟨hle5, (by omega), hck11⟩ (by (try dsimp only); omega)
     ·
      refine tc_exit (tq_then_exit (tq_rnd_exit (tq_block_here (tq_then ?_))))
      refine tc_rbn [0,2,0,0] [(92, Sl a12 ((((clerkTick c).1).books).length) c12), (93, I ((((clerkTick c).1).books).length : Int)), (94, I 0)] (tc_block ?_)
      have hlm_hs12_1 : (((clerkTick c).1).books).length ≤ 9223372036854775807 := Nat.le_trans (hs12.1).le (hs12.1).max
      refine tc_loop (σ := Nat × Mem) (fun q_ => (Mem.le G1 q_.2) ∧ (q_.1 ≤ (((clerkTick c).1).books).length) ∧ (C2 G1 q_.2 (⟨a7, ((clerkAsk c a).1).queue.wait.length, a8, ((clerkAsk c a).1).heads.length, a9, ((clerkAsk c a).1).books.length⟩ : CA) (⟨a10, ((clerkTick c).1).queue.wait.length, a11, ((clerkTick c).1).heads.length, a12, ((clerkTick c).1).books.length⟩ : CA) (140737489351232 + 1000 * q_.1))) (fun q_ => [(3, Pt b1 0), (7, Pt b3 0), (14, Sl a13 (((clerkBook c epoch).1).length) c13), (16, Bo (decide (c = c))), (53, .agg #[I (((clerkAsk c a).1).queue.most), Sl a7 ((((clerkAsk c a).1).queue.wait).length) c7, I (((clerkAsk c a).1).batch), I (((clerkAsk c a).1).every), I (((clerkAsk c a).1).now), Sl a8 ((((clerkAsk c a).1).heads).length) c8, Sl a9 ((((clerkAsk c a).1).books).length) c9, I (((clerkTick c).1).queue.most), Sl a10 ((((clerkTick c).1).queue.wait).length) c10, I (((clerkTick c).1).batch), I (((clerkTick c).1).every), I (((clerkTick c).1).now), Sl a11 ((((clerkTick c).1).heads).length) c11, Sl a12 ((((clerkTick c).1).books).length) c12]), (54, I 1), (92, Sl a12 ((((clerkTick c).1).books).length) c12), (93, I ((((clerkTick c).1).books).length : Int)), (94, I (q_.1 : Int))]) (fun q_ => q_.2) (fun q_ => [[Sg b7 0 [I (((clerkTick c).1).queue.most), Sl a10 ((((clerkTick c).1).queue.wait).length) c10, I (((clerkTick c).1).batch), I (((clerkTick c).1).every), I (((clerkTick c).1).now), Sl a11 ((((clerkTick c).1).heads).length) c11, Sl a12 ((((clerkTick c).1).books).length) c12]], [Sg b6 0 [I (((clerkAsk c a).1).queue.most), Sl a7 ((((clerkAsk c a).1).queue.wait).length) c7, I (((clerkAsk c a).1).batch), I (((clerkAsk c a).1).every), I (((clerkAsk c a).1).now), Sl a8 ((((clerkAsk c a).1).heads).length) c8, Sl a9 ((((clerkAsk c a).1).books).length) c9]], r1, [Sg b5 0 [I (((clerkTick c).1).queue.most), Sl a10 ((((clerkTick c).1).queue.wait).length) c10, I (((clerkTick c).1).batch), I (((clerkTick c).1).every), I (((clerkTick c).1).now), Sl a11 ((((clerkTick c).1).heads).length) c11, Sl a12 ((((clerkTick c).1).books).length) c12]], [Sg b4 0 [I (((clerkAsk c a).1).queue.most), Sl a7 ((((clerkAsk c a).1).queue.wait).length) c7, I (((clerkAsk c a).1).batch), I (((clerkAsk c a).1).every), I (((clerkAsk c a).1).now), Sl a8 ((((clerkAsk c a).1).heads).length) c8, Sl a9 ((((clerkAsk c a).1).books).length) c9]], [Sg b3 0 [I c.queue.most, Sl a4 c.queue.wait.length c4, I c.batch, I c.every, I c.now, Sl a5 c.heads.length c5, Sl a6 c.books.length c6]], [Sg b2 0 [Sr a.name, Sr a.value, U a.n, U a.tag]], [Sg b1 0 [I c.queue.most, Sl a1 c.queue.wait.length c1, I c.batch, I c.every, I c.now, Sl a2 c.heads.length c2, Sl a3 c.books.length c3]]]) (fun q_ => (((clerkTick c).1).books).length - q_.1) (0, g4_) ⟨hle4_, (by (try dsimp only); first | exact Nat.zero_le _ | omega | simp), (C2.wk hck10 (by omega))⟩ (fun q_ hs => ?_)
      obtain ⟨k, g5_⟩ := q_
      obtain ⟨hle5_, hi, hck12⟩ := hs
      dsimp only at hle5_ hi hck12
      refine tc_eq (fr' := [(3, Pt b1 0), (7, Pt b3 0), (14, Sl a13 (((clerkBook c epoch).1).length) c13), (16, Bo (decide (c = c))), (53, .agg #[I (((clerkAsk c a).1).queue.most), Sl a7 ((((clerkAsk c a).1).queue.wait).length) c7, I (((clerkAsk c a).1).batch), I (((clerkAsk c a).1).every), I (((clerkAsk c a).1).now), Sl a8 ((((clerkAsk c a).1).heads).length) c8, Sl a9 ((((clerkAsk c a).1).books).length) c9, I (((clerkTick c).1).queue.most), Sl a10 ((((clerkTick c).1).queue.wait).length) c10, I (((clerkTick c).1).batch), I (((clerkTick c).1).every), I (((clerkTick c).1).now), Sl a11 ((((clerkTick c).1).heads).length) c11, Sl a12 ((((clerkTick c).1).books).length) c12]), (54, I 1), (92, Sl a12 ((((clerkTick c).1).books).length) c12), (93, I ((((clerkTick c).1).books).length : Int)), (94, I (k : Int))]) (L' := [[Sg b7 0 [I (((clerkTick c).1).queue.most), Sl a10 ((((clerkTick c).1).queue.wait).length) c10, I (((clerkTick c).1).batch), I (((clerkTick c).1).every), I (((clerkTick c).1).now), Sl a11 ((((clerkTick c).1).heads).length) c11, Sl a12 ((((clerkTick c).1).books).length) c12]], [Sg b6 0 [I (((clerkAsk c a).1).queue.most), Sl a7 ((((clerkAsk c a).1).queue.wait).length) c7, I (((clerkAsk c a).1).batch), I (((clerkAsk c a).1).every), I (((clerkAsk c a).1).now), Sl a8 ((((clerkAsk c a).1).heads).length) c8, Sl a9 ((((clerkAsk c a).1).books).length) c9]], r1, [Sg b5 0 [I (((clerkTick c).1).queue.most), Sl a10 ((((clerkTick c).1).queue.wait).length) c10, I (((clerkTick c).1).batch), I (((clerkTick c).1).every), I (((clerkTick c).1).now), Sl a11 ((((clerkTick c).1).heads).length) c11, Sl a12 ((((clerkTick c).1).books).length) c12]], [Sg b4 0 [I (((clerkAsk c a).1).queue.most), Sl a7 ((((clerkAsk c a).1).queue.wait).length) c7, I (((clerkAsk c a).1).batch), I (((clerkAsk c a).1).every), I (((clerkAsk c a).1).now), Sl a8 ((((clerkAsk c a).1).heads).length) c8, Sl a9 ((((clerkAsk c a).1).books).length) c9]], [Sg b3 0 [I c.queue.most, Sl a4 c.queue.wait.length c4, I c.batch, I c.every, I c.now, Sl a5 c.heads.length c5, Sl a6 c.books.length c6]], [Sg b2 0 [Sr a.name, Sr a.value, U a.n, U a.tag]], [Sg b1 0 [I c.queue.most, Sl a1 c.queue.wait.length c1, I c.batch, I c.every, I c.now, Sl a2 c.heads.length c2, Sl a3 c.books.length c3]]]) rfl rfl ?_
      refine tc_rbn [0] [(95, Bo (decide ((k : Int) < ((((clerkTick c).1).books).length : Int))))] (tc_seq ?_)
      refine tc_condP (decide ((k : Int) < ((((clerkTick c).1).books).length : Int))) (fun h7 => ?_) (fun h7 => ?_)
      ·
       refine tc_skip (tq_then (tc_seq (tc_block (tc_seq (tc_region ?_)))))
       obtain ⟨bb2, ob2, ha7, a15, n2, c15, hc2, hsr4, hn7⟩ := COk.book hck12.2 (k := k) (show k < (((clerkTick c).1).books).length by omega)
       refine runL_idxR (b := bb2) (off := ob2) (len := (((clerkTick c).1).books).length) (cap := c12) (ik := .i64) 96 25 1 k ha7 (by omega) ?_
       refine runL_ldG (b := bb2) (o' := ob2 + k * 1) 97 25 (cs := [Sl a15 n2 c15]) 0 (Sl a15 n2 c15) (one_g hc2) ?_
       refine runL_bn [0] [(22, Sl a15 n2 c15)] (runL_nil (tq_then ?_))
       refine tc_rbn [0,0,0] [(99, I (n2 : Int)), (100, I 0)] (tc_block ?_)
       have hlm_hs12_1 : (((clerkTick c).1).books).length ≤ 9223372036854775807 := Nat.le_trans (hs12.1).le (hs12.1).max
       refine tc_loop (σ := Nat × Mem) (fun q_ => (Mem.le G1 q_.2) ∧ (q_.1 ≤ n2) ∧ (C2 G1 q_.2 (⟨a7, ((clerkAsk c a).1).queue.wait.length, a8, ((clerkAsk c a).1).heads.length, a9, ((clerkAsk c a).1).books.length⟩ : CA) (⟨a10, ((clerkTick c).1).queue.wait.length, a11, ((clerkTick c).1).heads.length, a12, ((clerkTick c).1).books.length⟩ : CA) (140737489351232 + 1000 * k + q_.1)) ∧ (SR G1 q_.2 a15 n2 (140737489351232 + 1000 * k + q_.1))) (fun q_ => [(3, Pt b1 0), (7, Pt b3 0), (14, Sl a13 (((clerkBook c epoch).1).length) c13), (16, Bo (decide (c = c))), (22, Sl a15 n2 c15), (53, .agg #[I (((clerkAsk c a).1).queue.most), Sl a7 ((((clerkAsk c a).1).queue.wait).length) c7, I (((clerkAsk c a).1).batch), I (((clerkAsk c a).1).every), I (((clerkAsk c a).1).now), Sl a8 ((((clerkAsk c a).1).heads).length) c8, Sl a9 ((((clerkAsk c a).1).books).length) c9, I (((clerkTick c).1).queue.most), Sl a10 ((((clerkTick c).1).queue.wait).length) c10, I (((clerkTick c).1).batch), I (((clerkTick c).1).every), I (((clerkTick c).1).now), Sl a11 ((((clerkTick c).1).heads).length) c11, Sl a12 ((((clerkTick c).1).books).length) c12]), (54, I 1), (92, Sl a12 ((((clerkTick c).1).books).length) c12), (93, I ((((clerkTick c).1).books).length : Int)), (94, I (k : Int)), (99, I (n2 : Int)), (100, I (q_.1 : Int))]) (fun q_ => q_.2) (fun q_ => [[Sg b7 0 [I (((clerkTick c).1).queue.most), Sl a10 ((((clerkTick c).1).queue.wait).length) c10, I (((clerkTick c).1).batch), I (((clerkTick c).1).every), I (((clerkTick c).1).now), Sl a11 ((((clerkTick c).1).heads).length) c11, Sl a12 ((((clerkTick c).1).books).length) c12]], [Sg b6 0 [I (((clerkAsk c a).1).queue.most), Sl a7 ((((clerkAsk c a).1).queue.wait).length) c7, I (((clerkAsk c a).1).batch), I (((clerkAsk c a).1).every), I (((clerkAsk c a).1).now), Sl a8 ((((clerkAsk c a).1).heads).length) c8, Sl a9 ((((clerkAsk c a).1).books).length) c9]], r1, [Sg b5 0 [I (((clerkTick c).1).queue.most), Sl a10 ((((clerkTick c).1).queue.wait).length) c10, I (((clerkTick c).1).batch), I (((clerkTick c).1).every), I (((clerkTick c).1).now), Sl a11 ((((clerkTick c).1).heads).length) c11, Sl a12 ((((clerkTick c).1).books).length) c12]], [Sg b4 0 [I (((clerkAsk c a).1).queue.most), Sl a7 ((((clerkAsk c a).1).queue.wait).length) c7, I (((clerkAsk c a).1).batch), I (((clerkAsk c a).1).every), I (((clerkAsk c a).1).now), Sl a8 ((((clerkAsk c a).1).heads).length) c8, Sl a9 ((((clerkAsk c a).1).books).length) c9]], [Sg b3 0 [I c.queue.most, Sl a4 c.queue.wait.length c4, I c.batch, I c.every, I c.now, Sl a5 c.heads.length c5, Sl a6 c.books.length c6]], [Sg b2 0 [Sr a.name, Sr a.value, U a.n, U a.tag]], [Sg b1 0 [I c.queue.most, Sl a1 c.queue.wait.length c1, I c.batch, I c.every, I c.now, Sl a2 c.heads.length c2, Sl a3 c.books.length c3]]]) (fun q_ => n2 - q_.1) (0, g5_) ⟨hle5_, (by (try dsimp only); first | exact Nat.zero_le _ | omega | simp), (C2.wk hck12 (by omega)), (SR.wk hsr4 (by omega))⟩ (fun q_ hs => ?_)
       obtain ⟨j, g6_⟩ := q_
       obtain ⟨hle6_, hi, hck13, hsr5⟩ := hs
       dsimp only at hle6_ hi hck13 hsr5
       refine tc_eq (fr' := [(3, Pt b1 0), (7, Pt b3 0), (14, Sl a13 (((clerkBook c epoch).1).length) c13), (16, Bo (decide (c = c))), (22, Sl a15 n2 c15), (53, .agg #[I (((clerkAsk c a).1).queue.most), Sl a7 ((((clerkAsk c a).1).queue.wait).length) c7, I (((clerkAsk c a).1).batch), I (((clerkAsk c a).1).every), I (((clerkAsk c a).1).now), Sl a8 ((((clerkAsk c a).1).heads).length) c8, Sl a9 ((((clerkAsk c a).1).books).length) c9, I (((clerkTick c).1).queue.most), Sl a10 ((((clerkTick c).1).queue.wait).length) c10, I (((clerkTick c).1).batch), I (((clerkTick c).1).every), I (((clerkTick c).1).now), Sl a11 ((((clerkTick c).1).heads).length) c11, Sl a12 ((((clerkTick c).1).books).length) c12]), (54, I 1), (92, Sl a12 ((((clerkTick c).1).books).length) c12), (93, I ((((clerkTick c).1).books).length : Int)), (94, I (k : Int)), (99, I (n2 : Int)), (100, I (j : Int))]) (L' := [[Sg b7 0 [I (((clerkTick c).1).queue.most), Sl a10 ((((clerkTick c).1).queue.wait).length) c10, I (((clerkTick c).1).batch), I (((clerkTick c).1).every), I (((clerkTick c).1).now), Sl a11 ((((clerkTick c).1).heads).length) c11, Sl a12 ((((clerkTick c).1).books).length) c12]], [Sg b6 0 [I (((clerkAsk c a).1).queue.most), Sl a7 ((((clerkAsk c a).1).queue.wait).length) c7, I (((clerkAsk c a).1).batch), I (((clerkAsk c a).1).every), I (((clerkAsk c a).1).now), Sl a8 ((((clerkAsk c a).1).heads).length) c8, Sl a9 ((((clerkAsk c a).1).books).length) c9]], r1, [Sg b5 0 [I (((clerkTick c).1).queue.most), Sl a10 ((((clerkTick c).1).queue.wait).length) c10, I (((clerkTick c).1).batch), I (((clerkTick c).1).every), I (((clerkTick c).1).now), Sl a11 ((((clerkTick c).1).heads).length) c11, Sl a12 ((((clerkTick c).1).books).length) c12]], [Sg b4 0 [I (((clerkAsk c a).1).queue.most), Sl a7 ((((clerkAsk c a).1).queue.wait).length) c7, I (((clerkAsk c a).1).batch), I (((clerkAsk c a).1).every), I (((clerkAsk c a).1).now), Sl a8 ((((clerkAsk c a).1).heads).length) c8, Sl a9 ((((clerkAsk c a).1).books).length) c9]], [Sg b3 0 [I c.queue.most, Sl a4 c.queue.wait.length c4, I c.batch, I c.every, I c.now, Sl a5 c.heads.length c5, Sl a6 c.books.length c6]], [Sg b2 0 [Sr a.name, Sr a.value, U a.n, U a.tag]], [Sg b1 0 [I c.queue.most, Sl a1 c.queue.wait.length c1, I c.batch, I c.every, I c.now, Sl a2 c.heads.length c2, Sl a3 c.books.length c3]]]) rfl rfl ?_
       refine tc_rbn [0] [(101, Bo (decide ((j : Int) < (n2 : Int))))] (tc_seq ?_)
       refine tc_condP (decide ((j : Int) < (n2 : Int))) (fun h8 => ?_) (fun h8 => ?_)
       ·
        refine tc_skip (tq_then (tc_seq (tc_block ?_)))
        refine tc_rbn [0,0] [(23, I (j : Int))] (tc_region ?_)
        refine runL_bn [0,0] [(103, Sl a15 n2 c15), (104, I (j : Int))] ?_
        obtain ⟨be2, oe2, ha8, ⟨s2, hy6, hsl2⟩, hn8⟩ := SR.addr hsr5 (k := j) (by omega)
        refine runL_idxR (b := be2) (off := oe2) (len := n2) (cap := c15) (ik := .i64) 105 58 2 j ha8 (by omega) ?_
        refine runL_bn [0] [(106, Pt be2 (oe2 + j * 2 + 1))] ?_
        refine runL_ldG (b := be2) (o' := oe2 + j * 2 + 1) 107 9 (cs := [Sr s2]) 0 (Sr s2) (one_g hy6) ?_
        refine runL_cat 108 s2 ([33]) (by first | omega | (simp only [List.length_cons, List.length_nil]; omega) | (have q_ := hxw.2 _ (Nat.le_refl _) _ (by assumption); simp only [List.length_cons, List.length_nil]; omega)) ?_
        refine runL_idxR (b := be2) (off := oe2) (len := n2) (cap := c15) (ik := .i64) 109 58 2 j ha8 (by omega) ?_
        refine runL_bn [0] [(110, Pt be2 (oe2 + j * 2 + 1))] ?_
        have hck14 := C2.updS (m' := 140737489351232 + 1000 * k + (j + 1)) hck13 hy6 (t := s2 ++ ([33])) (by simp only [List.length_append, List.length_cons, List.length_nil]; omega) (by omega)
        have hsr6 := SR.updS (m' := 140737489351232 + 1000 * k + (j + 1)) (b := be2) (o := oe2 + j * 2 + 1) hsr5 (t := s2 ++ ([33])) (by simp only [List.length_append, List.length_cons, List.length_nil]; omega) (by omega)
        have hle6 := le_upd hle6_ hn8 (Sr (s2 ++ ([33])))
        refine runL_stT (Sr (s2 ++ ([33]))) (Sr s2) hy6 (out_le hg0_ hn8) ?_
        refine runL_nil (tq_block (tq_then (tc_region ?_)))
        refine runL_bn [0,0] [(100, I (IntKind.i64.wrap ((j : Int) + 1)))] ?_
        refine runL_wi64 100 ((j : Int) + 1) (by first | omega | (have q_ := hxw.1; (try simp only [List.length_set]); omega)) ?_
        refine runL_nil ?_
        exact tq_rnd (j + 1, (Mem.upd g6_ be2 (oe2 + j * 2 + 1) (Sr (s2 ++ ([33]))))) ⟨hle6, (by omega), hck14, hsr6⟩ (by (try dsimp only); omega)
       ·
        refine tc_exit (tq_then_exit (tq_rnd_exit (tq_block_here (tq_block (tq_then (tc_region ?_))))))
        refine runL_bn [0,0] [(94, I (IntKind.i64.wrap ((k : Int) + 1)))] ?_
        refine runL_wi64 94 ((k : Int) + 1) (by first | omega | (have q_ := hxw.1; (try simp only [List.length_set]); omega)) ?_
        refine runL_nil ?_
        exact tq_rnd (k + 1, g6_) ⟨hle6_, (by omega), (C2.wk hck13 (by omega))⟩ (by (try dsimp only); omega)
      ·
       refine tc_exit (tq_then_exit (tq_rnd_exit (tq_block_here (tq_block (tq_then (tc_region ?_))))))
       refine runL_bn [0,0] [(54, I 2)] (runL_nil ?_)
       refine tq_iter ?_
       refine ti_step ?_
       refine tc_rbn [0] [(55, Bo false)] (tc_seq ?_)
       refine tc_cond_false ?_
       refine tc_exit (tq_then_exit (tq_then_exit (tq_block_here (tq_then (tc_seq ?_)))))
       refine tc_rbn [0,0,0] [(115, I (((clerkBook c epoch).1).length : Int)), (116, I 0)] (tc_block ?_)
       obtain ⟨hT1, hb1⟩ := TRow.weakB (G2 := g5_) hr1
       have hT1m : ((clerkBook c epoch).1).length ≤ 9223372036854775807 := Nat.le_trans (TRow.lec hT1) (TRow.mx hT1)
       refine tc_loop (σ := Nat × Option Addr × Nat × List Seg × List EntD) (fun q_ => (q_.1 ≤ ((clerkBook c epoch).1).length) ∧ (TRow EEntB g5_ q_.2.1 q_.2.2.1 q_.2.2.2.2 q_.2.2.2.1) ∧ (q_.2.2.2.2.length = ((clerkBook c epoch).1).length ∧ ∀ j, q_.1 ≤ j → ∀ y, q_.2.2.2.2[j]? = some y → y.value.length ≤ 140737488351232)) (fun q_ => [(3, Pt b1 0), (7, Pt b3 0), (14, Sl q_.2.1 q_.2.2.2.2.length q_.2.2.1), (16, Bo (decide (c = c))), (115, I (((clerkBook c epoch).1).length : Int)), (116, I (q_.1 : Int))]) (fun q_ => g5_) (fun q_ => [[Sg b7 0 [I (((clerkTick c).1).queue.most), Sl a10 ((((clerkTick c).1).queue.wait).length) c10, I (((clerkTick c).1).batch), I (((clerkTick c).1).every), I (((clerkTick c).1).now), Sl a11 ((((clerkTick c).1).heads).length) c11, Sl a12 ((((clerkTick c).1).books).length) c12]], [Sg b6 0 [I (((clerkAsk c a).1).queue.most), Sl a7 ((((clerkAsk c a).1).queue.wait).length) c7, I (((clerkAsk c a).1).batch), I (((clerkAsk c a).1).every), I (((clerkAsk c a).1).now), Sl a8 ((((clerkAsk c a).1).heads).length) c8, Sl a9 ((((clerkAsk c a).1).books).length) c9]], q_.2.2.2.1, [Sg b5 0 [I (((clerkTick c).1).queue.most), Sl a10 ((((clerkTick c).1).queue.wait).length) c10, I (((clerkTick c).1).batch), I (((clerkTick c).1).every), I (((clerkTick c).1).now), Sl a11 ((((clerkTick c).1).heads).length) c11, Sl a12 ((((clerkTick c).1).books).length) c12]], [Sg b4 0 [I (((clerkAsk c a).1).queue.most), Sl a7 ((((clerkAsk c a).1).queue.wait).length) c7, I (((clerkAsk c a).1).batch), I (((clerkAsk c a).1).every), I (((clerkAsk c a).1).now), Sl a8 ((((clerkAsk c a).1).heads).length) c8, Sl a9 ((((clerkAsk c a).1).books).length) c9]], [Sg b3 0 [I c.queue.most, Sl a4 c.queue.wait.length c4, I c.batch, I c.every, I c.now, Sl a5 c.heads.length c5, Sl a6 c.books.length c6]], [Sg b2 0 [Sr a.name, Sr a.value, U a.n, U a.tag]], [Sg b1 0 [I c.queue.most, Sl a1 c.queue.wait.length c1, I c.batch, I c.every, I c.now, Sl a2 c.heads.length c2, Sl a3 c.books.length c3]]]) (fun q_ => ((clerkBook c epoch).1).length - q_.1) (0, a13, c13, r1, (clerkBook c epoch).1) ⟨(by (try dsimp only); first | exact Nat.zero_le _ | omega | simp), hT1, ⟨rfl, fun j _ y hy => hb1 y (List.mem_of_getElem? hy)⟩⟩ (fun q_ hs => ?_)
       obtain ⟨i, aw, cw, rw, xw⟩ := q_
       obtain ⟨hi, hrw, hxw⟩ := hs
       dsimp only at hi hrw hxw
       refine tc_eq (fr' := [(3, Pt b1 0), (7, Pt b3 0), (14, Sl aw xw.length cw), (16, Bo (decide (c = c))), (115, I (((clerkBook c epoch).1).length : Int)), (116, I (i : Int))]) (L' := [[Sg b7 0 [I (((clerkTick c).1).queue.most), Sl a10 ((((clerkTick c).1).queue.wait).length) c10, I (((clerkTick c).1).batch), I (((clerkTick c).1).every), I (((clerkTick c).1).now), Sl a11 ((((clerkTick c).1).heads).length) c11, Sl a12 ((((clerkTick c).1).books).length) c12]], [Sg b6 0 [I (((clerkAsk c a).1).queue.most), Sl a7 ((((clerkAsk c a).1).queue.wait).length) c7, I (((clerkAsk c a).1).batch), I (((clerkAsk c a).1).every), I (((clerkAsk c a).1).now), Sl a8 ((((clerkAsk c a).1).heads).length) c8, Sl a9 ((((clerkAsk c a).1).books).length) c9]], rw, [Sg b5 0 [I (((clerkTick c).1).queue.most), Sl a10 ((((clerkTick c).1).queue.wait).length) c10, I (((clerkTick c).1).batch), I (((clerkTick c).1).every), I (((clerkTick c).1).now), Sl a11 ((((clerkTick c).1).heads).length) c11, Sl a12 ((((clerkTick c).1).books).length) c12]], [Sg b4 0 [I (((clerkAsk c a).1).queue.most), Sl a7 ((((clerkAsk c a).1).queue.wait).length) c7, I (((clerkAsk c a).1).batch), I (((clerkAsk c a).1).every), I (((clerkAsk c a).1).now), Sl a8 ((((clerkAsk c a).1).heads).length) c8, Sl a9 ((((clerkAsk c a).1).books).length) c9]], [Sg b3 0 [I c.queue.most, Sl a4 c.queue.wait.length c4, I c.batch, I c.every, I c.now, Sl a5 c.heads.length c5, Sl a6 c.books.length c6]], [Sg b2 0 [Sr a.name, Sr a.value, U a.n, U a.tag]], [Sg b1 0 [I c.queue.most, Sl a1 c.queue.wait.length c1, I c.batch, I c.every, I c.now, Sl a2 c.heads.length c2, Sl a3 c.books.length c3]]]) rfl rfl ?_
       refine tc_rbn [0] [(117, Bo (decide ((i : Int) < (((clerkBook c epoch).1).length : Int))))] (tc_seq ?_)
       refine tc_condP (decide ((i : Int) < (((clerkBook c epoch).1).length : Int))) (fun h9 => ?_) (fun h9 => ?_)
       ·
        refine tc_skip (tq_then (tc_seq (tc_block ?_)))
        refine tc_rbn [0,0] [(24, I (i : Int))] (tc_region ?_)
        refine runL_bn [0,0] [(119, Sl aw xw.length cw), (120, I (i : Int))] ?_
        obtain ⟨x1, hx1⟩ := getX (l := xw) (k := i) (by first | omega | (have q_ := hxw.1; (try simp only [List.length_set]); omega))
        obtain ⟨b8, o1, fu1, _, rfl, ha9, hre1, hc3⟩ := TRow.ix hrw hx1
        refine runL_idxR (b := b8) (off := o1) (len := xw.length) (cap := cw) (ik := .i64) 121 58 2 i ha9 (by first | omega | (have q_ := hxw.1; (try simp only [List.length_set]); omega)) ?_
        refine runL_bn [0] [(122, Pt b8 (o1 + i * 2 + 1))] ?_
        refine runL_ldR (off := o1) (p := i * 2) (cs := [Sr x1.name, Sr x1.value]) 123 9 2 1 (Sr x1.value) hre1 hc3 ?_
        refine runL_cat 124 x1.value ([33]) (by first | omega | (simp only [List.length_cons, List.length_nil]; omega) | (have q_ := hxw.2 _ (Nat.le_refl _) _ (by assumption); simp only [List.length_cons, List.length_nil]; omega)) ?_
        refine runL_idxR (b := b8) (off := o1) (len := xw.length) (cap := cw) (ik := .i64) 125 58 2 i ha9 (by first | omega | (have q_ := hxw.1; (try simp only [List.length_set]); omega)) ?_
        refine runL_bn [0] [(126, Pt b8 (o1 + i * 2 + 1))] ?_
        refine runL_stRf (b := b8) (off := o1) 2 hrw i 1 x1 (⟨x1.name, x1.value ++ ([33])⟩ : EntD) ha9 hx1 (Sr (x1.value ++ ([33]))) (by decide) (fun cs h_ => by rw [show cs = _ from h_]; rfl) (fun r2 hr2 => ?_)
        have e1 : xw.length = (xw.set i (⟨x1.name, x1.value ++ ([33])⟩ : EntD)).length := (List.length_set ..).symm
        refine runL_put 14 (Sl aw ((xw.set i (⟨x1.name, x1.value ++ ([33])⟩ : EntD)).length) cw) (congrArg (Sl aw · cw) e1) ?_
        refine runL_nil (tq_block (tq_then (tc_region ?_)))
        refine runL_bn [0,0] [(116, I (IntKind.i64.wrap ((i : Int) + 1)))] ?_
        refine runL_wi64 116 ((i : Int) + 1) (by first | omega | (have q_ := hxw.1; (try simp only [List.length_set]); omega)) ?_
        refine runL_nil ?_
        exact tq_rnd (i + 1, aw, cw, r2, xw.set i (⟨x1.name, x1.value ++ ([33])⟩ : EntD)) ⟨(by omega), hr2, ⟨by (try dsimp only); rw [List.length_set]; exact hxw.1, fun j hj y hy => hxw.2 j (by omega) y (by rwa [List.getElem?_set_ne (by omega)] at hy)⟩⟩ (by (try dsimp only); omega)
       ·
        refine tc_exit (tq_then_exit (tq_rnd_exit (tq_block_here (tq_then (tc_seq (tc_region ?_))))))
        refine runL_bn [0,0] [(129, Bo (decide (c = c)))] ?_
        refine runL_casesT [129] (decide (c = c)) (fun h10 => ?_) (fun h10 => ?_)
        ·
         refine runL_bn [16,12] [(130, .agg #[I c.queue.most, Sl a1 c.queue.wait.length c1, I c.batch, I c.every, I c.now, Sl a2 c.heads.length c2, Sl a3 c.books.length c3]), (131, .agg #[I c.queue.most, Sl a4 c.queue.wait.length c4, I c.batch, I c.every, I c.now, Sl a5 c.heads.length c5, Sl a6 c.books.length c6])] ?_
         refine runL_callV 132 (Bo (decide (c = c))) (smClerk_con g5_ [I c.queue.most, Sl a1 c.queue.wait.length c1, I c.batch, I c.every, I c.now, Sl a2 c.heads.length c2, Sl a3 c.books.length c3] c (⟨a1, c1, a2, c2, a3, c3, rfl, w1, (hs1.mono (Mem.le_trans hl1 hle5_)), w2, w3, w4, (hs2.mono (Mem.le_trans hl1 hle5_)), (hs3.mono (Mem.le_trans hl1 hle5_))⟩) [I c.queue.most, Sl a4 c.queue.wait.length c4, I c.batch, I c.every, I c.now, Sl a5 c.heads.length c5, Sl a6 c.books.length c6] c (⟨a4, c4, a5, c5, a6, c6, rfl, w9, (hs4.mono hle5_), w10, w11, w12, (hs5.mono hle5_), (hs6.mono hle5_)⟩)) ?_
         refine runL_bn [0,0] [(6, Bo (decide (c = c)))] (runL_nil (tq_then (tc_ret ?_)))
         refine tq_ret [0] [Bo (decide (c = c))] (bp_ret (Mem.le_trans hl1 hle5_) ?_)
         have hf_ : (decide (c = c)) = true := by
          first | (simp; done) | exact h10 | exact h10 rfl | (simp at h10; done)
         exact congrArg Bo hf_
        ·
         refine runL_bn [1,1,1,0,0] [(6, Bo false)] (runL_nil (tq_then (tc_ret ?_)))
         refine tq_ret [0] [Bo false] (bp_ret (Mem.le_trans hl1 hle5_) ?_)
         exfalso
         first | (simp; done) | exact h10 | exact h10 rfl | (simp at h10; done)
end Go.Proofs.YtpofnmobbbcpgaaGreatDoor
