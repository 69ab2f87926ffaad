import Derived.Test.YtmpakffajpnffaaKbEng
import Derived.Deep.AppendSrc
import Derived.Lib.UnsafeStr
import Derived.Lib.AppendZerosOnto
import Derived.LaidEqlPtr
import Derived.Lib.Builder
set_option linter.unusedVariables false
set_option linter.unusedSimpArgs false
namespace Go.Tx
open Go.RowKit
theorem front_perm {α : Type} : ∀ {L : List α} {i : Nat} {c : α}, L[i]? = some c → (c :: L.eraseIdx i).Perm L
  | [], _, _, h => by simp at h
  | a :: L, 0, c, h => by simp at h; subst h; simp
  | a :: L, i + 1, c, h => by
    have := front_perm (L := L) (i := i) (c := c) (by simpa using h)
    rw [List.eraseIdx_cons_succ]
    exact (List.Perm.swap a c _).trans (this.cons a)
theorem sub_flat {α : Type} : ∀ {L' L : List (List α)}, L'.Sublist L → L'.flatten.Sublist L.flatten
  | _, _, .slnil => List.Sublist.refl _
  | _, _, .cons a h => by rw [List.flatten_cons]; exact (sub_flat h).trans (List.sublist_append_right _ _)
  | _, _, .cons_cons a h => by rw [List.flatten_cons, List.flatten_cons]; exact (List.Sublist.refl _).append (sub_flat h)
theorem St.front {w0 w : World} {G0 G : Mem} {L : List (List Seg)} (h : St w0 G0 w G L) {i : Nat} {c : List Seg} (hi : L[i]? = some c) : St w0 G0 w G (c :: L.eraseIdx i) :=
  h.reorder _ _ (front_perm hi).flatten (List.Sublist.refl _)
theorem St.flat {w0 w : World} {G0 G : Mem} {L : List (List Seg)} (h : St w0 G0 w G L) (L' : List (List Seg)) (e : L'.flatten = L.flatten) : St w0 G0 w G L' :=
  h.dropAt L' (by rw [e]; exact List.Sublist.refl _)
section
variable {C : Cx} {Q : Exit → Act → World → Prop} {fr : List (Nat × Value)} {G : Mem} {L : List (List Seg)} {ops : Array Oper} {rest : List Oper} {o : Oper}
theorem tq_front {e : Exit} (i : Nat) {c : List Seg} (h : TQ C Q e fr G (c :: L.eraseIdx i)) (hi : L[i]? = some c := by rfl) : TQ C Q e fr G L :=
  fun a w ha hw => h a w ha (hw.front hi)
theorem tc_empty {y : Code} (h : TC C y Q fr G ([] :: L)) : TC C y Q fr G L := fun a w ha hw => h a w ha (hw.flat _ rfl)
theorem tq_empty {e : Exit} (h : TQ C Q e fr G ([] :: L)) : TQ C Q e fr G L := fun a w ha hw => h a w ha (hw.flat _ rfl)
theorem tq_owns {e : Exit} (L' : List (List Seg)) (hs : L'.Sublist L) (h : TQ C Q e fr G L') : TQ C Q e fr G L :=
  fun a w ha hw => h a w ha (hw.dropAt L' (sub_flat hs))
theorem runL_owns' (L' : List (List Seg)) (hs : L'.Sublist L) (h : RunL C ops Q rest fr G L') : RunL C ops Q rest fr G L :=
  fun a w ha hw => h a w ha (hw.dropAt L' (sub_flat hs))
theorem frz_fact {w : World} {G : Mem} {L : List (List Seg)} {w0 : World} {G0 : Mem} (hw : St w0 G0 w G L) {i : Nat} {c : List Seg} (hl : c.length ≤ 1) (hi : L[i]? = some c) :
    ∀ s ∈ c, ∀ j v, s.cs[j]? = some v → (G.add c) s.b (s.off + j) = some v := by
  have hm : ∀ s ∈ c, s ∈ L.flatten := fun s hs => by
    obtain ⟨hi', he⟩ := List.getElem?_eq_some_iff.1 hi
    exact List.mem_flatten.2 ⟨c, he ▸ List.getElem_mem hi', hs⟩
  intro s hs j v hv
  have hc : c = [s] := by
    match c, hl, hs with
    | [x], _, hs => simp at hs; rw [hs]
  have hn := ((hw.own s (hm s hs)).2.1 j v hv).2.2
  subst hc
  simp [Mem.add, hn, hv]
theorem tc_frz {y : Code} (i : Nat) {c : List Seg} (hl : c.length ≤ 1) (hi : L[i]? = some c) (h : ∀ G', Mem.le G G' → (∀ s ∈ c, ∀ j v, s.cs[j]? = some v → G' s.b (s.off + j) = some v) → TC C y Q fr G' (L.set i [])) :
    TC C y Q fr G L := fun a w ha hw => h (G.add c) (Mem.le_add _ _) (frz_fact hw hl hi) a w ha (hw.freeze hi)
theorem runL_frzR {α : Type} {E : Elt α} {a : Option Addr} {cap : Nat} {l : List α} {r : List Seg} (i : Nat) (hr : TRow E G a cap l r) (hb : l.length * E.bytes ≤ 281474976710656)
    (h : ∀ G', Mem.le G G' → RS E G' a cap l → RunL C ops Q rest fr G' (L.set i [])) (hi : L[i]? = some r := by rfl) : RunL C ops Q rest fr G L :=
  runL_frz i hr.one hi fun G' h1 h2 => h G' h1 (hr.rs h1 hb h2)
theorem tc_frzR {y : Code} {α : Type} {E : Elt α} {a : Option Addr} {cap : Nat} {l : List α} {r : List Seg} (i : Nat) (hr : TRow E G a cap l r) (hb : l.length * E.bytes ≤ 281474976710656)
    (h : ∀ G', Mem.le G G' → RS E G' a cap l → TC C y Q fr G' (L.set i [])) (hi : L[i]? = some r := by rfl) : TC C y Q fr G L :=
  tc_frz i hr.one hi fun G' h1 h2 => h G' h1 (hr.rs h1 hb h2)
theorem runL_callR (d : Nat) {f : FuncId} {args : Array Value} {Post : Value → Mem → List (List Seg) → Prop} (hc : Con C.P f args G [] Post)
    (h : ∀ v G' L1, Mem.le G G' → Post v G' L1 → RunL C ops Q rest ((d, v) :: fr) G' (L1 ++ L))
    (hw : wantedF ops fr o = some true := by rfl) (hd : o.dst = some d := by rfl) (hn : Nat.blt d C.n = true := by rfl) (hsel : isSel o.op = false := by rfl)
    (hcov : o.op.operands.toList.all (cov fr) = true := by as_aux_lemma => kernel_rfl) (hrun : ∀ w, (execOp (evo fr) o).run C.P w = .ok (.enter f args) w := by intro _; as_aux_lemma => kernel_rfl) :
    RunL C ops Q (o :: rest) fr G L :=
  runL_call d (hc.frame L) (fun v G' L' hle ⟨L1, e, hp⟩ => by subst e; exact h v G' L1 hle hp) hw hd hn hsel hcov hrun
end
theorem bp_rows {w0 : World} {G0 G G1 : Mem} {L : List (List Seg)} (L' : List (List Seg)) {Post : Value → Mem → List (List Seg) → Prop} {v : Value} (hs : L'.Sublist L) (hle : Mem.le G G1) (hp : Post v G1 L') :
    ∀ w, St w0 G0 w G1 L → BP w0 G0 G Post (.returned v) w := bp_retL L' (sub_flat hs) hle hp
section
variable {C : Cx} {Q : Exit → Act → World → Prop} {fr : List (Nat × Value)} {G : Mem} {L : List (List Seg)} {ops : Array Oper} {rest : List Oper} {o : Oper}
theorem TRow.of_lit {α : Type} {E : Elt α} {G : Mem} {b : Nat} (css : List (List Value)) (l : List α) (hA : AllR E G css l) (hmax : l.length ≤ 9223372036854775807) :
    TRow E G (At b 0) l.length l [Sg b 0 css.flatten] := by
  refine ⟨⟨css, hA.len.1, fun i x hx => hA.get i x hx, ?_⟩⟩
  exact Row.lit (by rw [flatten_len hA.len.2, hA.len.1]) hmax
theorem runL_app1' {α : Type} {E : Elt α} {a : Option Addr} {cap : Nat} {l : List α} {r : List Seg} (d e i j : Nat) {b : Nat} {cs : List Value} (x : α) (hr : TRow E G a cap l r) (hx : E.R G cs x)
    (h63 : l.length + 1 ≤ 9223372036854775807) (hby : (l.length + 1) * E.bytes ≤ 140737488355328)
    (h : ∀ a' cap' r', TRow E G a' cap' (l ++ [x]) r' → RunL C ops Q rest ((d, Sl a' (l ++ [x]).length cap') :: fr) G (L.set i r'))
    (hL : L[i]? = some r := by rfl) (hj : L[j]? = some [Sg b 0 cs] := by rfl)
    (hb : base C.n ops fr o d = true := by as_aux_lemma => kernel_rfl)
    (hc : chkApp C.P fr o e E.sz E.bytes = some (Sl a l.length cap, Sl (At b 0) 1 1) := by as_aux_lemma => kernel_rfl) : RunL C ops Q (o :: rest) fr G L :=
  runL_app1 d e i j x hr hx h63 hby (fun a' cap' r' ht => by have := h a' cap' r' ht; rw [List.length_append] at this; exact this) hL hj hb hc
theorem one_of {cs : List Value} (h : cs.all Value.oneCell' = true) : ∀ u ∈ cs, u.oneCell' = true := List.all_eq_true.1 h
end
def bytesV (l : List UInt8) : List Value := l.map fun b => Y (b.toNat : Int)
structure BRow (e : TypeId) (a : Option Addr) (cap : Nat) (l : List UInt8) (r : List Seg) : Prop where
  max : cap ≤ 9223372036854775807
  shape : (a = none ∧ cap = 0 ∧ l = [] ∧ r = []) ∨ ∃ b spare, a = some ⟨b, 0, none⟩ ∧ 0 < cap ∧ l.length + spare.length = cap ∧ r = [SgT e b 0 (bytesV l ++ spare)]
theorem BRow.nil (e : TypeId) : BRow e none 0 [] [] := ⟨by omega, .inl ⟨rfl, rfl, rfl, rfl⟩⟩
section
variable {C : Cx} {Q : Exit → Act → World → Prop} {fr : List (Nat × Value)} {G : Mem} {L : List (List Seg)} {ops : Array Oper} {rest : List Oper} {o : Oper}
end
section
variable {C : Cx} {Q : Exit → Act → World → Prop} {fr : List (Nat × Value)} {G : Mem} {L : List (List Seg)} {ops : Array Oper} {rest : List Oper} {o : Oper}
theorem runL_app0 {α : Type} {E : Elt α} {a ax : Option Addr} {capx : Nat} {ys : List α} {r : List Seg} (d e i : Nat) (hr : TRow E G a 0 [] r) (hy : RS E G ax capx ys)
    (h : ∀ a' cap' r', TRow E G a' cap' ys r' → RunL C ops Q rest ((d, Sl a' ys.length cap') :: fr) G (L.set i r'))
    (hL : L[i]? = some r := by rfl)
    (hb : base C.n ops fr o d = true := by as_aux_lemma => kernel_rfl)
    (hc : chkApp C.P fr o e E.sz E.bytes = some (Sl a 0 0, Sl ax ys.length capx) := by as_aux_lemma => kernel_rfl) : RunL C ops Q (o :: rest) fr G L := by
  refine runL_appG (l := []) d e i hr hy ?_ (.inr (.inr ⟨rfl, ?_⟩)) (fun a' c' r' ht _ => ?_) hL hb hc
  · have := hy.le; have := hy.max; simp; omega
  · simpa using hy.fit
  · have := h a' c' r' ht
    rw [List.length_nil, Nat.zero_add]; exact this
theorem RS.isNil {α : Type} {E : Elt α} {G : Mem} {a : Option Addr} {c : Nat} {l : List α} (h : RS E G a c l) (e : a.isNone = true) : l = [] := by
  cases a with
  | some _ => cases e
  | none =>
    have := h.nil rfl; have := h.le
    exact List.eq_nil_of_length_eq_zero (by omega)
end
section
variable {C : Cx} {Q : Exit → Act → World → Prop} {fr : List (Nat × Value)} {G : Mem} {L : List (List Seg)} {ops : Array Oper} {rest : List Oper} {o : Oper}
end
section
variable {C : Cx} {Q : Exit → Act → World → Prop} {fr : List (Nat × Value)} {G : Mem} {L : List (List Seg)} {ops : Array Oper} {rest : List Oper} {o : Oper}
end
section
variable {C : Cx} {Q : Exit → Act → World → Prop} {fr : List (Nat × Value)} {G : Mem} {L : List (List Seg)} {ops : Array Oper} {rest : List Oper} {o : Oper}
end
end Go.Tx
