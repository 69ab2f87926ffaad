/- Owned rows by their cells: copy, growth by zeros, cuts, stores of elements. -/
import Derived.Test.YtngoijkcbmchdaaGreatDoorRul
import Derived.Lib.AppendZerosOnto
import Derived.Lib.Overlaps
set_option linter.unusedVariables false
set_option linter.unusedSimpArgs false
namespace Go.Tx
open Go.RowKit
section
variable {C : Cx} {Q : Exit → Act → World → Prop} {fr : List (Nat × Value)} {G : Mem} {L : List (List Seg)} {ops : Array Oper} {rest : List Oper} {o : Oper}
/-- A cut of a slice whose address is known. -/
theorem runL_slB (d sz : Nat) {b off len cap : Nat} (vlo vhi : Option Value) (lo hi : Nat) (h1 : lowOf vlo lo) (h2 : highOf vhi hi len) (h3 : lo ≤ hi) (h4 : hi ≤ cap) (h5 : lo < cap)
    (h : RunL C ops Q rest ((d, Sl (At b (off + lo * sz)) (hi - lo) (cap - lo)) :: fr) G L)
    (hb : base C.n ops fr o d = true := by as_aux_lemma => kernel_rfl)
    (hx : (chkSl fr o, isSlT C.P o sz) = (some (Sl (At b off) len cap, vlo, vhi, true), true) := by as_aux_lemma => kernel_rfl) : RunL C ops Q (o :: rest) fr G L := by
  refine runL_reslE d sz vlo vhi lo hi h1 h2 h3 (a' := At b (off + lo * sz)) ?_ rfl rfl h4 h hb hx
  rw [if_neg (by omega)]
  simp only [Option.map_some, addr_add]
/-- A cut of which nothing is used. -/
theorem runL_slU (d sz : Nat) {a : Option Addr} {len cap : Nat} (vlo vhi : Option Value) (lo hi : Nat) (h1 : lowOf vlo lo) (h2 : highOf vhi hi len) (h3 : lo ≤ hi) (h4 : hi ≤ cap)
    (h : ∀ a', RunL C ops Q rest ((d, Sl a' (hi - lo) (cap - lo)) :: fr) G L)
    (hb : base C.n ops fr o d = true := by as_aux_lemma => kernel_rfl)
    (hx : (chkSl fr o, isSlT C.P o sz) = (some (Sl a len cap, vlo, vhi, true), true) := by as_aux_lemma => kernel_rfl) : RunL C ops Q (o :: rest) fr G L :=
  runL_reslE d sz vlo vhi lo hi h1 h2 h3 rfl rfl rfl h4 (h _) hb hx
def chkCpy (P : Program) (fr : List (Nat × Value)) (o : Oper) (sz : Nat) : Option (Value × Value) :=
  match o.op with
  | .call c => (match c.callee, c.args.toList, c.argTypes.toList with
    | .builtin .copy, [s, x], [t, _] =>
      (match P.underlying t with
       | some (.slice e') => (match P.info? e' with
          | some inf => bif Nat.beq inf.size sz then some (evo fr s, evo fr x) else none
          | none => none)
       | _ => none)
    | _, _, _ => none)
  | _ => none
/-- What a copy reads: cells that are immutable, or those of an owned block. -/
def SrcOf (G : Mem) (L : List (List Seg)) (b o : Nat) (X : List Value) : Prop :=
  (∀ (j : Nat) v, X[j]? = some v → G b (o + j) = some v) ∨ ∃ (k off : Nat) (F : List Value) (q : Nat), L[k]? = some [Sg b off F] ∧ o = off + q ∧ ∀ (j : Nat) v, X[j]? = some v → F[q + j]? = some v
theorem runL_cpy (d i sz : Nat) {b off p nd cd bs os ns cs : Nat} {F : List Value} (X : List Value) (hX : X.length = Nat.min ns nd * sz) (hp : p + X.length ≤ F.length) (hone : ∀ u ∈ X, u.oneCell' = true)
    (hs : SrcOf G L bs os X) (h : RunL C ops Q rest ((d, I ((Nat.min ns nd : Nat) : Int)) :: fr) G (L.set i [Sg b off (splice F p X)])) (hL : L[i]? = some [Sg b off F] := by rfl)
    (hb : base C.n ops fr o d = true := by as_aux_lemma => kernel_rfl)
    (hc : chkCpy C.P fr o sz = some (Sl (At b (off + p)) nd cd, Sl (At bs os) ns cs) := by as_aux_lemma => kernel_rfl) : RunL C ops Q (o :: rest) fr G L := by
  refine runL_run d hb (fun w hw => ?_) (fun w hw => synRW (by
    have hc_ := hc
    unfold chkCpy at hc_
    split at hc_
    case h_2 => cases hc_
    rename_i cl hop
    split at hc_
    case h_2 => cases hc_
    rename_i s x t u hcal hargs htys
    split at hc_
    case h_2 => cases hc_
    split at hc_
    case h_2 => cases hc_
    generalize (Nat.beq _ _ : Bool) = q at hc_
    cases q with
    | false => cases hc_
    | true =>
      simp only [cond_true, Option.some.injEq, Prod.mk.injEq] at hc_
      refine syn_cpyOp hop hcal hargs htys hc_.1 (fun ad e => ?_)
      cases e
      obtain ⟨hi', he⟩ := List.getElem?_eq_some_iff.1 hL
      exact (hw.own (Sg b off F) (List.mem_flatten.2 ⟨_, he ▸ List.getElem_mem hi', by simp⟩)).1))
  unfold chkCpy at hc
  split at hc
  case h_2 => cases hc
  rename_i cl hop
  split at hc
  case h_2 => cases hc
  rename_i s x t u hcal hargs htys
  split at hc
  case h_2 => cases hc
  rename_i e' hu
  split at hc
  case h_2 => cases hc
  rename_i inf hi
  cases hx : Nat.beq inf.size sz with
  | false => rw [hx] at hc; cases hc
  | true =>
    rw [hx] at hc
    simp only [cond_true, Option.some.injEq, Prod.mk.injEq] at hc
    obtain rfl := Nat.eq_of_beq_eq_true hx
    have ha : cl.args = #[s, x] := by rw [← hargs]
    have ht : cl.argTypes = #[t, u] := by rw [← htys]
    have hmem : ∀ {k : Nat} {b' off' : Nat} {F' : List Value}, L[k]? = some [Sg b' off' F'] → (Sg b' off' F') ∈ L.flatten := by
      intro k b' off' F' hk
      obtain ⟨hi', he⟩ := List.getElem?_eq_some_iff.1 hk
      exact List.mem_flatten.2 ⟨_, he ▸ List.getElem_mem hi', by simp⟩
    have hsrc : ∀ (j : Nat) v, X[j]? = some v → w.cell? ((⟨bs, os, none⟩ : Addr).add j) = some v := by
      intro j v hv
      rw [addr_add]
      rcases hs with hs | ⟨k, off', F', q, hk, rfl, hq⟩
      · exact hw.mem _ _ _ (hs j v hv)
      · have hown := (hw.own _ (hmem hk)).2.1 (q + j) v (hq j v hv)
        have := hown.1
        simp only at this
        rwa [← Nat.add_assoc] at this
    have hown := (hw.own _ (hmem hL)).2.1
    simp only at hown
    have hcell : ∀ j, j < X.length → ∃ u, F[p + j]? = some u := fun j hj => ⟨_, List.getElem?_eq_getElem (by omega)⟩
    have hst : (storeCells ⟨b, off + p, none⟩ X 0).run C.P w = .ok () (putCells w b (off + p + 0) X) := run_putCells C.P b (off + p) X w 0 hone
      (fun j hj => by obtain ⟨u, hu⟩ := hcell j hj; have := (hown _ u hu).1; rw [← Nat.add_assoc] at this; exact ⟨u, by simpa using this⟩)
      (fun j hj => by obtain ⟨u, hu⟩ := hcell j hj; have := (hown _ u hu).2.1; rw [← Nat.add_assoc] at this; simpa using this)
    have hfc := run_firstCells_some (P := C.P) (w := w) inf.size (Nat.min ns nd) ⟨bs, os, none⟩ ns cs X hX hsrc
    have hSt := hw.store hL p X hp
    simp only at hSt
    refine ⟨_, _, G, _, ?_, hSt, h⟩
    have hrun : (Builtin.copy_ #[t, u] o.type #[Sl (At b (off + p)) nd cd, Sl (At bs os) ns cs]).run C.P w = .ok (goInt (Nat.min ns nd)) (putCells w b (off + p) X) := by
      simp only [Nat.add_zero] at hst
      simp [Builtin.copy_, run_underlying hu, Builtin.lenOf, sizeOf, typeInfo, hi, hfc, hst]
    unfold execOp
    simp only [hop, hcal, ha, ht, resolve, invoke, builtin, Sem.run_bind, Sem.run_pure, Result.andThen_ok, List.map_toArray, List.map_cons, List.map_nil, hc.1, hc.2, hrun]
    rfl
/-- append(s, make(.., k)...) where s has no room. -/
theorem runL_appZb {α : Type} {E : Elt α} (d i e sz bytes k n : Nat) {b off cap : Nat} {F : List Value} (hTF : Typed E G cap F) (hnc : n ≤ cap) (hk : 0 < k) (hg : cap < n + k) (h48 : (n + k) * bytes ≤ 140737488355328) (hF : n * sz ≤ F.length) (h63 : n + k ≤ 9223372036854775807)
    (h : ∀ b' c' zs, n + k ≤ c' → c' ≤ 9223372036854775807 → (F.take (n * sz) ++ zs).length = c' * sz → Typed E G c' (F.take (n * sz) ++ zs) → RunL C ops Q rest ((d, Sl (At b' 0) (n + k) c') :: fr) G ([Sg b' 0 (F.take (n * sz) ++ zs)] :: L))
    (hL : L[i]? = some [Sg b off F] := by rfl)
    (hb : base C.n ops fr o d = true := by as_aux_lemma => kernel_rfl)
    (hc : chkAppZ C.P fr o e sz bytes = some (Sl (At b off) n cap, I (k : Int), E.z) := by as_aux_lemma => kernel_rfl) (hEs : E.sz = sz := by rfl) : RunL C ops Q (o :: rest) fr G L := by
  refine runL_run d hb (fun w hw => ?_) (fun w hw => synRW (by
    have hc_ := hc
    unfold chkAppZ at hc_
    split at hc_
    case h_2 => cases hc_
    rename_i cl hop
    split at hc_
    case h_2 => cases hc_
    rename_i s x t tx hcal hargs htys
    split at hc_
    case h_2 => cases hc_
    split at hc_
    case h_2 => cases hc_
    generalize (_ && _ : Bool) = q at hc_
    cases q with
    | false => cases hc_
    | true =>
      simp only [cond_true, Option.some.injEq, Prod.mk.injEq] at hc_
      refine syn_appOp hop hcal hargs htys hc_.1 (fun ad e => ?_)
      cases e
      obtain ⟨hi', he⟩ := List.getElem?_eq_some_iff.1 hL
      exact (hw.own (Sg b off F) (List.mem_flatten.2 ⟨_, he ▸ List.getElem_mem hi', by simp⟩)).1))
  unfold chkAppZ at hc
  split at hc
  case h_2 => cases hc
  rename_i cl hop
  split at hc
  case h_2 => cases hc
  rename_i s x t tx hcal hargs htys
  split at hc
  case h_2 => cases hc
  rename_i e' kn inf hu hkn hi
  split at hc
  case h_2 => cases hc
  rename_i z hz
  cases hx : (Nat.beq e' e && Nat.beq inf.size sz && Nat.beq inf.bytes bytes && Nat.beq z.cells.size sz && !Nat.beq sz 0) with
  | false => rw [hx] at hc; cases hc
  | true =>
    rw [hx] at hc
    simp only [cond_true, Option.some.injEq, Prod.mk.injEq] at hc
    simp only [Bool.and_eq_true, Bool.not_eq_true'] at hx
    obtain ⟨⟨⟨⟨c2, c3⟩, c4⟩, c5⟩, c6⟩ := hx
    obtain rfl := Nat.eq_of_beq_eq_true c2
    obtain rfl := Nat.eq_of_beq_eq_true c3
    obtain rfl := Nat.eq_of_beq_eq_true c4
    have c5' := Nat.eq_of_beq_eq_true c5
    have hs0 : 0 < inf.size := by
      rcases Nat.eq_zero_or_pos inf.size with h0 | h0
      · rw [h0] at c6; simp at c6
      · exact h0
    have ha : cl.args = #[s, x] := by rw [← hargs]
    have ht : cl.argTypes = #[t, tx] := by rw [← htys]
    have hm : (Sg b off F) ∈ L.flatten := by
      obtain ⟨hi', he⟩ := List.getElem?_eq_some_iff.1 hL
      exact List.mem_flatten.2 ⟨_, he ▸ List.getElem_mem hi', by simp⟩
    have hown := (hw.drew.own _ hm).2.1
    have hold : (Builtin.firstCells inf.size n (.slice (At b off) n cap)).run C.P w.drew = .ok (F.take (n * inf.size)).toArray w.drew :=
      run_firstCells_some (P := C.P) (w := w.drew) inf.size n ⟨b, off, none⟩ n cap _ (by rw [List.length_take]; omega) (fun j v hv => by
        rw [addr_add]
        rw [List.getElem?_take] at hv
        split at hv
        · exact (hown j v hv).1
        · cases hv)
    have hkb : k * inf.bytes ≤ (n + k) * inf.bytes := Nat.mul_le_mul_right _ (by omega)
    have hfit : Builtin.nextslicecap (n + k) cap * inf.bytes ≤ 281474976710656 := growslice_fits (by omega) h48
    have hrun := Lib.run_append_grow_zeros (P := C.P) w t tx o.type e' inf z .i64 kn hu hkn hi hz (At b off) n cap (F.take (n * inf.size)) hold k hk hs0 hg (by omega) (by omega) hfit
    have hge := grownCap_ge w (n + k) cap e'
    have hSt := hw.drew.alloc ((F.take (n * inf.size)).toArray ++ Builtin.zeroCells z.cells k ++ Builtin.zeroCells z.cells (grownCap w (n + k) cap e' - (n + k))) e'
    have ecs : ((F.take (n * inf.size)).toArray ++ Builtin.zeroCells z.cells k ++ Builtin.zeroCells z.cells (grownCap w (n + k) cap e' - (n + k))).toList = F.take (n * inf.size) ++ (Builtin.zeroCells z.cells k ++ Builtin.zeroCells z.cells (grownCap w (n + k) cap e' - (n + k))).toList := by simp
    rw [ecs] at hSt
    refine ⟨_, _, G, _, ?_, hSt, h w.heap.size (grownCap w (n + k) cap e') _ hge ?_ ?_ ?_⟩
    · unfold execOp
      simp only [hop, hcal, ha, ht, resolve, invoke, builtin, Sem.run_bind, Sem.run_pure, Result.andThen_ok, List.map_toArray, List.map_cons, List.map_nil, hc.1, hc.2.1, hrun]
      rfl
    · have := grownCap_le_maxLen w (n + k) cap e' (by simp only [maxLen]; omega)
      simp only [maxLen] at this; omega
    · simp only [Array.toList_append, List.length_append, Array.length_toList, zeroCells_size, c5', List.length_take]
      rw [Nat.min_eq_left hF, ← Nat.add_mul, ← Nat.add_mul]
      congr 1
      omega
    · have := (hTF.take hnc).app ((Typed.zeros (E := E) G hc.2.2 k).app (Typed.zeros (E := E) G hc.2.2 (grownCap w (n + k) cap e' - (n + k))))
      rw [show n + (k + (grownCap w (n + k) cap e' - (n + k))) = grownCap w (n + k) cap e' by omega, hEs] at this
      simpa using this
/-- A store of a whole element into a row. -/
theorem runL_stR {α : Type} {E : Elt α} {a : Option Addr} {cap : Nat} {l : List α} {r : List Seg} (i : Nat) (hr : TRow E G a cap l r) (k : Nat) (x : α) {b off : Nat} (ha : a = At b off) (hk : k < l.length) (v : Value) (vs : List Value) (hx : E.R G vs x)
    (h : ∀ r', TRow E G a cap (l.set k x) r' → RunL C ops Q rest fr G (L.set i r')) (hL : L[i]? = some r := by rfl)
    (hc : (chkSt C.P ops fr o vs.length, v.cells.toList, vs.all Value.oneCell') = (some (Pt b (off + k * E.sz + 0), v), vs, true) := by as_aux_lemma => kernel_rfl) : RunL C ops Q (o :: rest) fr G L := by
  obtain ⟨css, c1, c2, c3⟩ := hr.ex
  have hsz := css_sz c1 c2
  rcases c3.shape with ⟨h0, hcap, _⟩ | ⟨b', off', spare, h0, rfl, hsp⟩
  · rw [h0] at ha; cases ha
  · rw [h0] at ha
    cases ha
    have hvl : vs.length = E.sz := E.len hx
    have hfl : css.flatten.length = l.length * E.sz := by rw [flatten_len hsz, c1]
    have hkk : k * E.sz + E.sz ≤ l.length * E.sz := by
      have := Nat.mul_le_mul_right E.sz (show k + 1 ≤ l.length from hk)
      rw [Nat.add_mul, Nat.one_mul] at this; exact this
    have hset : splice (css.flatten ++ spare) (k * E.sz) vs = (css.set k vs).flatten ++ spare := by
      have h1 : css = css.take k ++ (css[k]'(by omega)) :: css.drop (k + 1) := by
        conv => lhs; rw [← List.take_append_drop k css]
        rw [List.drop_eq_getElem_cons (by omega)]
      have h2 : css.set k vs = css.take k ++ vs :: css.drop (k + 1) := by rw [List.set_eq_take_append_cons_drop, if_pos (by omega)]
      have h3 : (css.take k).flatten.length = k * E.sz := by
        rw [flatten_len (fun cs hcs => hsz cs (List.mem_of_mem_take hcs)), List.length_take, Nat.min_eq_left (by omega)]
      have h4 : (css[k]'(by omega)).length = E.sz := hsz _ (List.getElem_mem _)
      unfold splice
      rw [h2]
      conv => lhs; rw [h1]
      simp only [List.flatten_append, List.flatten_cons, List.append_assoc]
      rw [← h3, List.take_left]
      congr 2
      rw [hvl, ← h4, ← List.drop_drop, List.drop_left, List.drop_left]
    refine runL_stX i (k * E.sz) (b := b) (off := off) (cs := css.flatten ++ spare) v vs (by rw [List.length_append, hvl, hfl]; omega) ?_ hL hc
    rw [hset]
    refine h _ ⟨⟨css.set k vs, by simp [c1], fun j y hy => ?_, ?_⟩, fun s hs => ?_⟩
    · rw [List.getElem?_set] at hy ⊢
      by_cases e : k = j
      · subst e
        rw [if_pos rfl, if_pos (by omega)]
        rw [if_pos rfl, if_pos hk] at hy
        exact ⟨vs, rfl, by rw [← Option.some.inj hy]; exact hx⟩
      · rw [if_neg e] at hy ⊢
        exact c2 j y hy
    · refine ⟨?_, by rw [List.length_set]; exact c3.le, c3.max, .inr ⟨b, off, spare, h0, rfl, by rw [List.length_set]; exact hsp⟩⟩
      rw [List.length_set, flatten_len (sz := E.sz), List.length_set, c1]
      intro cs hcs
      rcases List.mem_or_eq_of_mem_set hcs with hcs | rfl
      · exact hsz cs hcs
      · exact hvl
    · rw [List.mem_singleton.1 hs, ← hset]
      exact (hr.sp _ (List.mem_singleton.2 rfl)).splice (Typed.one hx) (by have := c3.le; omega)
end
section
variable {C : Cx} {Q : Exit → Act → World → Prop} {fr : List (Nat × Value)} {G : Mem} {L : List (List Seg)} {ops : Array Oper} {rest : List Oper} {o : Oper}
theorem runL_slT0 (d sz : Nat) {b off len cap : Nat} (vhi : Option Value) (hi : Nat) (h2 : highOf vhi hi len) (h4 : hi ≤ cap)
    (h : RunL C ops Q rest ((d, Sl (At b off) hi cap) :: fr) G L)
    (hb : base C.n ops fr o d = true := by as_aux_lemma => kernel_rfl)
    (hx : (chkSl fr o, isSlT C.P o sz) = (some (Sl (At b off) len cap, none, vhi, true), true) := by as_aux_lemma => kernel_rfl) : RunL C ops Q (o :: rest) fr G L := by
  refine runL_reslE d sz none vhi 0 hi (.inl ⟨rfl, rfl⟩) h2 (Nat.zero_le _) (a' := At b off) ?_ (Nat.sub_zero _).symm (Nat.sub_zero _).symm h4 h hb hx
  split
  · rfl
  · simp only [Option.map_some, addr_add, Nat.zero_mul, Nat.add_zero]
theorem runL_bslT (d n : Nat) (cs : Array Value) (t : TypeId)
    (h : ∀ b, RunL C ops Q rest ((d, Sl (At b 0) n n) :: fr) G ([SgT t b 0 cs.toList] :: L))
    (hb : base C.n ops fr o d = true := by as_aux_lemma => kernel_rfl)
    (hrun : ∀ w, (execOp (evo fr) o).run C.P w = .ok (.value (.slice (some ⟨w.heap.size, 0, none⟩) n n)) { w with heap := w.heap.push (.cells cs t) } := by intro _; as_aux_lemma => kernel_rfl) (hsy : ∀ f g, synB C.P f g (execOp (evo fr) o) 0 = true := by intro _ _; as_aux_lemma => kernel_rfl) :
    RunL C ops Q (o :: rest) fr G L := by
  refine runL_run d hb (fun w hw => ⟨_, _, G, _, hrun w, hw.allocT cs t, h w.heap.size⟩) (fun w hw => synR fun _ _ => syn_of_B _ 0 hsy)
theorem runL_extW (d : Nat) {f : FuncId} {args : Array Value} (v : Value) (hv : ∀ w, St C.w0 C.G0 w G L → (callFunc f args).run C.P w = .ok (.value v) w)
    (h : RunL C ops Q rest ((d, v) :: fr) G L)
    (hb : base C.n ops fr o d = true := by as_aux_lemma => kernel_rfl)
    (hc : chkExt fr o = some (f, args) := by as_aux_lemma => kernel_rfl) (hsx : ∀ f' g', synB C.P f' g' (callFunc f args) 0 = true := by intro _ _; as_aux_lemma => kernel_rfl) : RunL C ops Q (o :: rest) fr G L := by
  refine runL_run d hb (fun w hw => ⟨v, w, G, L, ?_, hw, h⟩) (fun w hw => synR fun Wr Rd => by
    have hc_ := hc
    unfold chkExt at hc_
    split at hc_
    case h_2 => cases hc_
    rename_i c hop
    split at hc_
    case h_2 => cases hc_
    rename_i g hcal
    simp only [Option.some.injEq, Prod.mk.injEq] at hc_
    obtain ⟨rfl, rfl⟩ := hc_
    unfold execOp
    simp only [hop, resolve, hcal, evo, Deferred.ofValue]
    have := syn_of_B (P := C.P) (Wr := Wr) (Rd := Rd) _ 0 hsx
    simpa [invoke] using this)
  unfold chkExt at hc
  split at hc
  case h_2 => cases hc
  rename_i c hop
  split at hc
  case h_2 => cases hc
  rename_i g hcal
  simp only [Option.some.injEq, Prod.mk.injEq] at hc
  obtain ⟨rfl, rfl⟩ := hc
  have := hv w hw
  unfold execOp
  simp only [hop, resolve, hcal, evo, Deferred.ofValue, Sem.run_bind, Sem.run_pure, Result.andThen_ok, invoke]
  simpa using this
theorem St.untype {w0 w : World} {G0 G : Mem} {L : List (List Seg)} {i e b : Nat} {cs : List Value} (hw : St w0 G0 w G L) (hL : L[i]? = some [SgT e b 0 cs]) : St w0 G0 w G (L.set i [Sg b 0 cs]) := by
  obtain ⟨A, B, rfl, hset⟩ := split_at hL
  rw [hset]
  have hap : (A.flatten ++ ([SgT e b 0 cs] ++ B.flatten)).Pairwise Seg.apart := by simpa using hw.apart
  obtain ⟨hA, hcB, hAcB⟩ := List.pairwise_append.1 hap
  obtain ⟨_, hB', hcB'⟩ := List.pairwise_append.1 hcB
  refine ⟨hw.below, hw.mem, hw.grow, hw.fresh, fun s hs => ?_, ?_⟩
  · have hs' : s ∈ A.flatten ∨ s = Sg b 0 cs ∨ s ∈ B.flatten := by simpa using hs
    rcases hs' with h | rfl | h
    · exact hw.own s (by simp [h])
    · have := hw.own (SgT e b 0 cs) (by simp)
      exact ⟨this.1, this.2.1, this.2.2.1, fun _ he => by cases he⟩
    · exact hw.own s (by simp [h])
  · have : (A.flatten ++ ([Sg b 0 cs] ++ B.flatten)).Pairwise Seg.apart := by
      refine List.pairwise_append.2 ⟨hA, List.pairwise_append.2 ⟨by simp, hB', fun x hx y hy => ?_⟩, fun x hx y hy => ?_⟩
      · obtain rfl : x = _ := by simpa using hx
        exact hcB' (SgT e b 0 cs) (by simp) y hy
      · rcases List.mem_append.1 hy with hy | hy
        · obtain rfl : y = _ := by simpa using hy
          exact hAcB x hx (SgT e b 0 cs) (by simp)
        · exact hAcB x hx y (List.mem_append_right _ hy)
    simpa using this
theorem runL_untype (i : Nat) {e b : Nat} {cs : List Value} (h : RunL C ops Q rest fr G (L.set i [Sg b 0 cs])) (hL : L[i]? = some [SgT e b 0 cs] := by rfl) : RunL C ops Q rest fr G L := fun a w ha hw => h a w ha (hw.untype hL)
theorem tc_untype {y : Code} (i : Nat) {e b : Nat} {cs : List Value} (h : TC C y Q fr G (L.set i [Sg b 0 cs])) (hL : L[i]? = some [SgT e b 0 cs] := by rfl) : TC C y Q fr G L := fun a w ha hw => h a w ha (hw.untype hL)
end
theorem apart_at {L : List (List Seg)} {i j : Nat} {s t : Seg} (h : L.flatten.Pairwise Seg.apart) (hi : L[i]? = some [s]) (hj : L[j]? = some [t]) (hij : i ≠ j) : s.apart t := by
  obtain ⟨hi1, hie⟩ := List.getElem?_eq_some_iff.1 hi
  have hLe : L = L.take i ++ [s] :: L.drop (i + 1) := by rw [← hie, ← List.drop_eq_getElem_cons hi1, List.take_append_drop]
  have hap : ((L.take i).flatten ++ ([s] ++ (L.drop (i + 1)).flatten)).Pairwise Seg.apart := by
    rw [hLe] at h; simpa using h
  obtain ⟨hA, hcB, hAcB⟩ := List.pairwise_append.1 hap
  obtain ⟨_, hB', hcB'⟩ := List.pairwise_append.1 hcB
  by_cases h1 : j < i
  · have hm : t ∈ (L.take i).flatten := List.mem_flatten.2 ⟨[t], List.mem_of_getElem? (i := j) (by rw [List.getElem?_take, if_pos h1]; exact hj), by simp⟩
    exact Seg.apart_symm (hAcB t hm _ (by simp))
  · have hm : t ∈ (L.drop (i + 1)).flatten := List.mem_flatten.2 ⟨[t], List.mem_of_getElem? (i := j - (i + 1)) (by rw [List.getElem?_drop, show i + 1 + (j - (i + 1)) = j by omega]; exact hj), by simp⟩
    exact hcB' s (by simp) t hm
theorem ovl_false {P : Program} {w0 w : World} {G0 G : Mem} {L : List (List Seg)} (hw : St w0 G0 w G L) {i j e bv b off : Nat} {X F : List Value} (hL1 : L[i]? = some [SgT e bv 0 X]) (hX : 0 < X.length) (hL2 : L[j]? = some [Sg b off F]) (hF : 0 < F.length) (hij : i ≠ j)
    (tS tR el size : Nat) (ht : P.underlying tS = some (.slice el)) (hz : ∀ w, (Go.sizeOf el).run P w = .ok size w) (q la ca lb cb : Nat) :
    (Extern.SlicesOverlaps.overlaps #[tS, tS] #[tR] #[Sl (At bv 0) la ca, Sl (At b q) lb cb]).run P w = .ok (.bool false) w := by
  have hm : ∀ {k : Nat} {s : Seg}, L[k]? = some [s] → s ∈ L.flatten := by
    intro k s hk
    obtain ⟨hi', he⟩ := List.getElem?_eq_some_iff.1 hk
    exact List.mem_flatten.2 ⟨_, he ▸ List.getElem_mem hi', by simp⟩
  have o1 := hw.own _ (hm hL1)
  have o2 := hw.own _ (hm hL2)
  obtain ⟨sh1, fz1⟩ := shp_shape ((o1.2.2.2 e rfl).2)
  have c2 := (o2.2.1 0 _ (List.getElem?_eq_getElem hF)).1
  simp only [Nat.add_zero] at c2 sh1 fz1
  obtain ⟨tB, kB, sh2, hlt⟩ : ∃ tB kB, w.shape? b = some (tB, kB) ∧ off < kB := by
    unfold World.cell? at c2
    unfold World.shape?
    simp only at c2
    split at c2
    · rename_i c t fz hh
      refine ⟨t, c.size, rfl, ?_⟩
      exact (Array.getElem?_eq_some_iff.1 (by simpa using c2)).1
    · cases c2
  have hne : bv ≠ b := by
    intro hb
    subst hb
    rw [sh1] at sh2
    cases sh2
    have := apart_at hw.apart hL1 hL2 hij
    exact this bv off ⟨rfl, Nat.zero_le _, by simp [Seg.len]; omega⟩ ⟨rfl, Nat.le_refl _, by simp [Seg.len]; omega⟩
  exact Lib.run_overlaps_apart w tS tR el ht size hz ⟨bv, 0, none⟩ ⟨b, q, none⟩ la ca lb cb hne e tB _ kB sh1 sh2 (by omega) (fz1 0) (fz1 _)
theorem TRow.lec {α : Type} {E : Elt α} {G : Mem} {a : Option Addr} {cap : Nat} {l : List α} {r : List Seg} (h : TRow E G a cap l r) : l.length ≤ cap := by
  obtain ⟨css, h1, h2, h3⟩ := h.ex
  exact h3.le
theorem TRow.mx {α : Type} {E : Elt α} {G : Mem} {a : Option Addr} {cap : Nat} {l : List α} {r : List Seg} (h : TRow E G a cap l r) : cap ≤ 9223372036854775807 := by
  obtain ⟨css, h1, h2, h3⟩ := h.ex
  exact h3.max
theorem css_one {css : List (List Value)} (i : Nat) (h : ∀ cs ∈ css, ∀ u ∈ cs, u.oneCell' = true) : ∀ u ∈ (css.drop i).flatten, u.oneCell' = true := by
  intro u hu
  obtain ⟨cs, hcs, huc⟩ := List.mem_flatten.1 hu
  exact h cs (List.mem_of_mem_drop hcs) u huc
/-- A row's cells at hand. -/
theorem TRow.opened {α : Type} {E : Elt α} {G : Mem} {a : Option Addr} {cap : Nat} {l : List α} {r : List Seg} (h : TRow E G a cap l r) (h0 : 0 < l.length) :
    ∃ (b off : Nat) (css : List (List Value)) (spare : List Value), a = At b off ∧ r = [Sg b off (css.flatten ++ spare)] ∧ css.length = l.length ∧ (∀ (i : Nat) x, l[i]? = some x → ∃ cs, css[i]? = some cs ∧ E.R G cs x) ∧ (∀ cs ∈ css, cs.length = E.sz) ∧ spare.length = (cap - l.length) * E.sz ∧ l.length ≤ cap ∧ cap ≤ 9223372036854775807 ∧ (∀ cs ∈ css, ∀ u ∈ cs, u.oneCell' = true) := by
  obtain ⟨css, c1, c2, c3⟩ := h.ex
  rcases c3.shape with ⟨_, hc, _⟩ | ⟨b, off, spare, ha, hr, hsp⟩
  · have := c3.le; omega
  · refine ⟨b, off, css, spare, ha, hr, c1, c2, css_sz c1 c2, hsp, c3.le, c3.max, fun cs hcs u hu => ?_⟩
    obtain ⟨k, hk, rfl⟩ := List.mem_iff_getElem.1 hcs
    obtain ⟨cs', p1, p2⟩ := c2 k _ (List.getElem?_eq_getElem (c1 ▸ hk))
    rw [List.getElem?_eq_getElem hk] at p1
    rw [Option.some.inj p1] at hu
    exact E.one p2 u hu
theorem TRow.made {α : Type} {E : Elt α} {G : Mem} {b off cap : Nat} {l : List α} {css : List (List Value)} {F : List Value} (h1 : css.length = l.length) (h2 : ∀ (i : Nat) x, l[i]? = some x → ∃ cs, css[i]? = some cs ∧ E.R G cs x)
    (hF : F.take (l.length * E.sz) = css.flatten) (hl : F.length = cap * E.sz) (hc : l.length ≤ cap) (hm : cap ≤ 9223372036854775807) (hT : Typed E G cap F) : TRow E G (At b off) cap l [Sg b off F] := by
  refine ⟨⟨css, h1, h2, ⟨?_, hc, hm, .inr ⟨b, off, F.drop (l.length * E.sz), rfl, ?_, ?_⟩⟩⟩, fun s hs => by rw [List.mem_singleton.1 hs]; exact hT⟩
  · rw [← hF, List.length_take, hl]
    have := Nat.mul_le_mul_right E.sz hc
    omega
  · rw [← hF, List.take_append_drop]
  · rw [List.length_drop, hl, Nat.sub_mul]
/-- One put in at place i, by two copies: the shift, then the one. -/
theorem ins_cells (A B S X : List Value) (hS : X.length ≤ S.length) : splice (splice (A ++ B ++ S) (A.length + X.length) B) A.length X = A ++ X ++ B ++ S.drop X.length := by
  have h1 : splice (A ++ B ++ S) (A.length + X.length) B = A ++ (B ++ S).take X.length ++ B ++ S.drop X.length := by
    unfold splice
    rw [List.append_assoc, List.take_append, List.take_of_length_le (by omega), show A.length + X.length - A.length = X.length by omega]
    have : (A ++ (B ++ S)).drop (A.length + X.length + B.length) = S.drop X.length := by
      rw [show A.length + X.length + B.length = A.length + (B.length + X.length) by omega, ← List.drop_drop, List.drop_left, ← List.drop_drop, List.drop_left]
    rw [this]; simp only [List.append_assoc]
  rw [h1]
  unfold splice
  rw [List.append_assoc, List.append_assoc, List.take_left]
  have h2 : ((B ++ S).take X.length).length = X.length := by rw [List.length_take, List.length_append]; omega
  rw [← List.drop_drop, List.drop_left]
  conv => lhs; rw [show List.drop X.length ((B ++ S).take X.length ++ (B ++ S.drop X.length)) = B ++ S.drop X.length by rw [← h2]; simp]
  simp
theorem ins_cells2 (A Z B X : List Value) (h : X.length + B.length ≤ Z.length) : splice (splice (A ++ Z) A.length X) (A.length + X.length) B = A ++ X ++ B ++ Z.drop (X.length + B.length) := by
  have h1 : splice (A ++ Z) A.length X = A ++ X ++ Z.drop X.length := by
    unfold splice
    rw [List.take_left, ← List.drop_drop, List.drop_left]; simp only [List.append_assoc]
  rw [h1]
  unfold splice
  have : A.length + X.length = (A ++ X).length := by simp
  rw [this, List.take_left, ← List.drop_drop, List.drop_left, List.drop_drop]; simp only [List.append_assoc]
theorem ins_css {α : Type} {E : Elt α} {G : Mem} {l : List α} {css : List (List Value)} {x : α} {X : List Value} (i : Nat) (hi : i ≤ l.length) (h1 : css.length = l.length) (h2 : ∀ (i : Nat) x, l[i]? = some x → ∃ cs, css[i]? = some cs ∧ E.R G cs x) (hx : E.R G X x) :
    (css.take i ++ [X] ++ css.drop i).length = (l.take i ++ [x] ++ l.drop i).length ∧ ∀ (k : Nat) y, (l.take i ++ [x] ++ l.drop i)[k]? = some y → ∃ cs, (css.take i ++ [X] ++ css.drop i)[k]? = some cs ∧ E.R G cs y := by
  refine ⟨by simp [h1], fun k y hy => ?_⟩
  rw [List.append_assoc] at hy ⊢
  by_cases hk : k < i
  · rw [List.getElem?_append_left (by rw [List.length_take]; omega), List.getElem?_take, if_pos hk] at hy
    obtain ⟨cs, e1, e2⟩ := h2 k y hy
    exact ⟨cs, by rw [List.getElem?_append_left (by rw [List.length_take]; omega), List.getElem?_take, if_pos hk]; exact e1, e2⟩
  · rw [List.getElem?_append_right (by rw [List.length_take]; omega), List.length_take, Nat.min_eq_left hi] at hy
    rw [List.getElem?_append_right (by rw [List.length_take]; omega), List.length_take, Nat.min_eq_left (by omega)]
    cases hd : k - i with
    | zero => rw [hd] at hy; exact ⟨X, rfl, by rw [← (Option.some.inj hy : x = y)]; exact hx⟩
    | succ m =>
      rw [hd] at hy
      have hy : (l.drop i)[m]? = some y := hy
      rw [List.getElem?_drop] at hy
      obtain ⟨cs, e1, e2⟩ := h2 _ y hy
      refine ⟨cs, ?_, e2⟩
      show (css.drop i)[m]? = some cs
      rw [List.getElem?_drop]; exact e1
theorem css_take_len {css : List (List Value)} {sz i : Nat} (h : ∀ cs ∈ css, cs.length = sz) (hi : i ≤ css.length) : (css.take i).flatten.length = i * sz := by
  rw [flatten_len (fun cs hcs => h cs (List.mem_of_mem_take hcs)), List.length_take, Nat.min_eq_left hi]
theorem css_drop_len {css : List (List Value)} {sz i : Nat} (h : ∀ cs ∈ css, cs.length = sz) : (css.drop i).flatten.length = (css.length - i) * sz := by
  rw [flatten_len (fun cs hcs => h cs (List.mem_of_mem_drop hcs)), List.length_drop]
theorem css_src {css : List (List Value)} {spare : List Value} {sz i : Nat} (h : ∀ cs ∈ css, cs.length = sz) (hi : i ≤ css.length) : ∀ (j : Nat) v, (css.drop i).flatten[j]? = some v → (css.flatten ++ spare)[i * sz + j]? = some v := by
  intro j v hv
  have hA := css_take_len h hi
  have e : css.flatten ++ spare = (css.take i).flatten ++ ((css.drop i).flatten ++ spare) := by rw [← List.append_assoc, ← List.flatten_append, List.take_append_drop]
  rw [e, List.getElem?_append_right (by omega), hA, show i * sz + j - i * sz = j by omega, List.getElem?_append_left (List.getElem?_eq_some_iff.1 hv).1]; exact hv
/-- The row behind the two copies in place. -/
theorem TRow.insP {α : Type} {E : Elt α} {G : Mem} {b off cap : Nat} {l : List α} {css : List (List Value)} {spare X : List Value} {x : α} (i : Nat) (hi : i ≤ l.length) (h1 : css.length = l.length) (h2 : ∀ (i : Nat) x, l[i]? = some x → ∃ cs, css[i]? = some cs ∧ E.R G cs x) (hx : E.R G X x)
    (hsp : spare.length = (cap - l.length) * E.sz) (hc : l.length + 1 ≤ cap) (hm : cap ≤ 9223372036854775807) (hT : Typed E G cap (css.flatten ++ spare)) : TRow E G (At b off) cap (l.take i ++ [x] ++ l.drop i) [Sg b off (splice (splice (css.flatten ++ spare) ((i + 1) * E.sz) (css.drop i).flatten) (i * E.sz) X)] := by
  have hT2 := (hT.splice (i := i + 1) ((Typed.of h1 h2).drop (i := i) hi) (by omega)).splice (i := i) (Typed.one hx) (by omega)
  rw [(css_takeF (css_sz h1 h2) (by omega)).2] at hT2
  have hsz := css_sz h1 h2
  have hXl : X.length = E.sz := E.len hx
  have hA := css_take_len hsz (i := i) (by omega)
  have hspl : X.length ≤ spare.length := by
    rw [hXl, hsp]
    exact Nat.le_mul_of_pos_left _ (by omega)
  have e : css.flatten ++ spare = (css.take i).flatten ++ (css.drop i).flatten ++ spare := by
    rw [← List.flatten_append, List.take_append_drop]
  have hF : splice (splice (css.flatten ++ spare) ((i + 1) * E.sz) (css.drop i).flatten) (i * E.sz) X = (css.take i).flatten ++ X ++ (css.drop i).flatten ++ spare.drop X.length := by
    rw [e, show (i + 1) * E.sz = (css.take i).flatten.length + X.length by rw [hA, hXl, Nat.add_mul, Nat.one_mul], ← hA]
    exact ins_cells _ _ _ _ hspl
  rw [hF]
  obtain ⟨g1, g2⟩ := ins_css i hi h1 h2 hx
  have hfl : (css.take i ++ [X] ++ css.drop i).flatten = (css.take i).flatten ++ X ++ (css.drop i).flatten := by simp
  have hlen : (l.take i ++ [x] ++ l.drop i).length = l.length + 1 := by simp; omega
  have hfl2 : ((css.take i).flatten ++ X ++ (css.drop i).flatten).length = (l.length + 1) * E.sz := by
    rw [List.length_append, List.length_append, hA, hXl, css_drop_len hsz, h1, show l.length + 1 = i + 1 + (l.length - i) by omega, Nat.add_mul, Nat.add_mul, Nat.one_mul]
  refine TRow.made g1 g2 ?_ ?_ (by rw [hlen]; exact hc) hm ?_
  · rw [hfl, hlen, ← hfl2, List.take_left]
  · rw [List.length_append, hfl2, List.length_drop, hsp, hXl]
    have := Nat.mul_le_mul_right E.sz hc
    have e3 : (cap - l.length) * E.sz = cap * E.sz - l.length * E.sz := Nat.sub_mul _ _ _
    have e4 : (l.length + 1) * E.sz = l.length * E.sz + E.sz := by rw [Nat.add_mul, Nat.one_mul]
    omega
  · rw [← hF]; exact hT2
/-- The row behind the growth and the two copies. -/
theorem TRow.insG {α : Type} {E : Elt α} {G : Mem} {b cap : Nat} {l : List α} {css : List (List Value)} {spare zs X : List Value} {x : α} (i : Nat) (hi : i ≤ l.length) (h1 : css.length = l.length) (h2 : ∀ (i : Nat) x, l[i]? = some x → ∃ cs, css[i]? = some cs ∧ E.R G cs x) (hx : E.R G X x)
    (hz : ((css.flatten ++ spare).take (i * E.sz) ++ zs).length = cap * E.sz) (hc : l.length + 1 ≤ cap) (hm : cap ≤ 9223372036854775807) (hT : Typed E G cap ((css.flatten ++ spare).take (i * E.sz) ++ zs)) : TRow E G (At b 0) cap (l.take i ++ [x] ++ l.drop i) [Sg b 0 (splice (splice ((css.flatten ++ spare).take (i * E.sz) ++ zs) (i * E.sz) X) ((i + 1) * E.sz) (css.drop i).flatten)] := by
  have hT2 := (hT.splice (i := i) (Typed.one hx) (by omega)).splice (i := i + 1) ((Typed.of h1 h2).drop (i := i) hi) (by omega)
  rw [(css_takeF (css_sz h1 h2) (by omega)).2] at hT2
  have hsz := css_sz h1 h2
  have hXl : X.length = E.sz := E.len hx
  have hA := css_take_len hsz (i := i) (by omega)
  have e : (css.flatten ++ spare).take (i * E.sz) = (css.take i).flatten := by
    have : css.flatten ++ spare = (css.take i).flatten ++ ((css.drop i).flatten ++ spare) := by
      rw [← List.append_assoc, ← List.flatten_append, List.take_append_drop]
    rw [this, ← hA, List.take_left]
  rw [e] at hz ⊢
  have hD := css_drop_len hsz (i := i)
  have hmul : (l.length + 1) * E.sz = i * E.sz + (E.sz + (l.length - i) * E.sz) := by
    rw [show l.length + 1 = i + (1 + (l.length - i)) by omega, Nat.add_mul, Nat.add_mul, Nat.one_mul]
  have hmc := Nat.mul_le_mul_right E.sz hc
  rw [List.length_append, hA] at hz
  have hF : splice (splice ((css.take i).flatten ++ zs) (i * E.sz) X) ((i + 1) * E.sz) (css.drop i).flatten = (css.take i).flatten ++ X ++ (css.drop i).flatten ++ zs.drop (X.length + (css.drop i).flatten.length) := by
    rw [show (i + 1) * E.sz = (css.take i).flatten.length + X.length by rw [hA, hXl, Nat.add_mul, Nat.one_mul], ← hA]
    exact ins_cells2 _ _ _ _ (by rw [hXl, hD, h1]; omega)
  rw [hF]
  obtain ⟨g1, g2⟩ := ins_css i hi h1 h2 hx
  have hfl : (css.take i ++ [X] ++ css.drop i).flatten = (css.take i).flatten ++ X ++ (css.drop i).flatten := by simp
  have hlen : (l.take i ++ [x] ++ l.drop i).length = l.length + 1 := by simp; omega
  have hfl2 : ((css.take i).flatten ++ X ++ (css.drop i).flatten).length = (l.length + 1) * E.sz := by
    rw [List.length_append, List.length_append, hA, hXl, hD, h1]; omega
  refine TRow.made g1 g2 ?_ ?_ (by rw [hlen]; exact hc) hm ?_
  · rw [hfl, hlen, ← hfl2, List.take_left]
  · rw [List.length_append, hfl2, List.length_drop, hXl, hD, h1]
    omega
  · rw [← hF, ← e]; exact hT2
section
variable {C : Cx} {Q : Exit → Act → World → Prop} {fr : List (Nat × Value)} {G : Mem} {L : List (List Seg)} {ops : Array Oper} {rest : List Oper} {o : Oper}
theorem TRow.tk {α : Type} {E : Elt α} {G : Mem} {a : Option Addr} {cap : Nat} {l : List α} {r : List Seg} (h : TRow E G a cap l r) (i : Nat) (hi : i ≤ l.length) : TRow E G a cap (l.take i) r := by
  obtain ⟨css, h1, h2, h3⟩ := h.ex
  have hsz := css_sz h1 h2
  refine ⟨⟨css.take i, by simp [h1], fun k x hx => ?_, ?_⟩, h.sp⟩
  · rw [List.getElem?_take] at hx ⊢
    split at hx
    · rename_i hk; rw [if_pos hk]; exact h2 k x hx
    · cases hx
  · have hA := css_take_len hsz (i := i) (by omega)
    refine ⟨by rw [hA, List.length_take, Nat.min_eq_left hi], by rw [List.length_take]; have := h3.le; omega, h3.max, ?_⟩
    rcases h3.shape with ⟨h4, h5, h6⟩ | ⟨b, off, spare, h4, h5, h6⟩
    · exact .inl ⟨h4, h5, h6⟩
    · refine .inr ⟨b, off, (css.drop i).flatten ++ spare, h4, ?_, ?_⟩
      · rw [h5, ← List.append_assoc, ← List.flatten_append, List.take_append_drop]
      · rw [List.length_append, h6, css_drop_len hsz, h1, List.length_take, Nat.min_eq_left hi, ← Nat.add_mul]
        congr 1
        have := h3.le; omega
/-- append to a row, of elements that stand in a block (the same one, too), where there is room. -/
theorem runL_appS2 {α : Type} {E : Elt α} {a ax : Option Addr} {cap capx : Nat} {l ys : List α} {r : List Seg} (d e i : Nat) (hr : TRow E G a cap l r) (dss : List (List Value)) (d1 : dss.length = ys.length) (d2 : ∀ (k : Nat) y, ys[k]? = some y → ∃ cs, dss[k]? = some cs ∧ E.R G cs y)
    (hs : 0 < ys.length → ∃ bs os, ax = At bs os ∧ SrcOf G L bs os dss.flatten) (hroom : l.length + ys.length ≤ cap)
    (h : ∀ r', TRow E G a cap (l ++ ys) r' → RunL C ops Q rest ((d, Sl a (l.length + ys.length) cap) :: fr) G (L.set i r'))
    (hL : L[i]? = some r := by rfl)
    (hb : base C.n ops fr o d = true := by as_aux_lemma => kernel_rfl)
    (hc : chkApp C.P fr o e E.sz E.bytes = some (Sl a l.length cap, Sl ax ys.length capx, E.z) := by as_aux_lemma => kernel_rfl) : RunL C ops Q (o :: rest) fr G L := by
  obtain ⟨t, ty, inf, z, hu, hi, hz, hzs, hsz, hbs, hzz, hrun⟩ := run_app hc
  obtain ⟨css, c1, c2, c3⟩ := hr.ex
  have dsz := css_sz d1 d2
  refine runL_run d hb (fun w hw => ?_) (fun w hw => synRW (syn_chkApp hc (c3.blk hL hw)))
  have hreads : Reads inf.size w ax ys.length dss.flatten := by
    refine ⟨by rw [flatten_len dsz, d1, hsz], fun ha => ?_, fun ad ha j v hv => ?_⟩
    · rcases Nat.eq_zero_or_pos ys.length with h0 | h0
      · exact h0
      · obtain ⟨bs, os, hax, _⟩ := hs h0; rw [ha] at hax; cases hax
    · have hj := (List.getElem?_eq_some_iff.1 hv).1
      rw [flatten_len dsz] at hj
      have h0 : 0 < ys.length := by
        rcases Nat.eq_zero_or_pos ys.length with h0 | h0
        · rw [d1, h0] at hj; omega
        · exact h0
      obtain ⟨bs, os, hax, hsrc⟩ := hs h0
      rw [ha] at hax
      cases hax
      rw [addr_add]
      rcases hsrc with hsrc | ⟨k, off', F', q, hk, rfl, hq⟩
      · exact hw.mem _ _ _ (hsrc j v hv)
      · obtain ⟨hi', he⟩ := List.getElem?_eq_some_iff.1 hk
        have hm : (Sg bs off' F') ∈ L.flatten := List.mem_flatten.2 ⟨_, he ▸ List.getElem_mem hi', by simp⟩
        have := ((hw.own _ hm).2.1 (q + j) v (hq j v hv)).1
        simp only at this
        rwa [← Nat.add_assoc] at this
  have hone : ∀ u ∈ dss.flatten, u.oneCell' = true := by
    intro u hu
    obtain ⟨cs, hcs, huc⟩ := List.mem_flatten.1 hu
    obtain ⟨k, hk, rfl⟩ := List.mem_iff_getElem.1 hcs
    obtain ⟨cs', p1, p2⟩ := d2 k _ (List.getElem?_eq_getElem (d1 ▸ hk))
    rw [List.getElem?_eq_getElem hk] at p1
    simp at p1
    exact E.one p2 u (p1 ▸ huc)
  rw [← hsz] at c3
  have h63 : l.length + ys.length ≤ 9223372036854775807 := by have := c3.max; omega
  obtain ⟨a', cap', r', w', q1, q2, q3, q4, q5⟩ := hw.append (P := C.P) hL (ty := ty) hu hi hz hzs c3 (c := capx) hreads hone h63 (.inl hroom)
  obtain ⟨rfl, rfl⟩ := q4 hroom
  refine ⟨_, w', G, _, by rw [hrun, q1]; rfl, q2, h r' ⟨⟨css ++ dss, by simp [c1, d1], ?_, ?_⟩, TRow.appSp hr c1 c2 (Typed.of d1 d2) hsz hzz q3.le q5⟩⟩
  · intro k x hx
    by_cases hlt : k < l.length
    · rw [List.getElem?_append_left hlt] at hx
      obtain ⟨cs, p1, p2⟩ := c2 k x hx
      exact ⟨cs, by rw [List.getElem?_append_left (by omega)]; exact p1, p2⟩
    · rw [List.getElem?_append_right (by omega)] at hx
      obtain ⟨cs, p1, p2⟩ := d2 _ x hx
      exact ⟨cs, by rw [List.getElem?_append_right (by omega), c1]; exact p1, p2⟩
  · rw [List.flatten_append, List.length_append, ← hsz]; exact q3
def baseN (n : Nat) (ops : Array Oper) (fr : List (Nat × Value)) (o : Oper) : Bool :=
  o.dst.isNone && wantB true (wantedF ops fr o) && !isSel o.op && o.op.operands.toList.all (cov fr)
theorem runL_runN (hb : baseN C.n ops fr o = true)
    (hx : ∀ w, St C.w0 C.G0 w G L → ∃ v w' G' L', (execOp (evo fr) o).run C.P w = .ok (.value v) w' ∧ St C.w0 C.G0 w' G' L' ∧ RunL C ops Q rest fr G' L')
    (hs : ∀ w, St C.w0 C.G0 w G L → OkS C.P C.w0.heap.size w (execOp (evo fr) o)) :
    RunL C ops Q (o :: rest) fr G L := by
  intro a w ha hw
  unfold baseN at hb
  simp only [Bool.and_eq_true, Option.isNone_iff_eq_none] at hb
  obtain ⟨⟨⟨hd, hwt⟩, hsel⟩, hcov⟩ := hb
  have hE : execOp a.eval o = execOp (evo fr) o := execOp_congr _ _ _ (fun cs b e => by rw [e] at hsel; simp [isSel] at hsel)
    (fun x hx => ha.eval x (List.all_eq_true.1 hcov x (by simpa using hx)))
  have hwant : wantedF ops fr o = some true := by
    cases hx : wantedF ops fr o with
    | none => rw [hx] at hwt; simp [wantB] at hwt
    | some b => rw [hx] at hwt; simp [wantB] at hwt; rw [← hwt]
  unfold wpListS
  rw [if_pos (wantedF_eq ha hwant)]
  refine .inl ?_
  intro w1 hp1 _
  replace hw := hw.push hp1
  obtain ⟨v, w', G', L', hr, hS, hk⟩ := hx w1 hw
  refine .inl ⟨v, w', OkS.opR (by rw [hE]; exact hr) (by rw [hE]; exact hs w1 hw), ?_⟩
  rw [hd]
  exact hk _ _ ha hS
def chkSl3 (fr : List (Nat × Value)) (o : Oper) : Option (Value × Value × Value × Value) :=
  match o.op with
  | .slice _ x (some lo) (some hi) (some mx) => some (evo fr x, evo fr lo, evo fr hi, evo fr mx)
  | _ => none
/-- A cut with its room said, of which nothing is used. -/
theorem runL_sl3U (d sz : Nat) {a : Option Addr} {len cap : Nat} {k1 k2 k3 : IntKind} (lo hi mx : Nat) (h1 : lo ≤ hi) (h2 : hi ≤ mx) (h3 : mx ≤ cap)
    (h : ∀ a', RunL C ops Q rest ((d, Sl a' (hi - lo) (mx - lo)) :: fr) G L)
    (hb : base C.n ops fr o d = true := by as_aux_lemma => kernel_rfl)
    (hx : (chkSl3 fr o, isSlT C.P o sz) = (some (Sl a len cap, .int k1 (lo : Int), .int k2 (hi : Int), .int k3 (mx : Int)), true) := by as_aux_lemma => kernel_rfl) : RunL C ops Q (o :: rest) fr G L := by
  simp only [Prod.mk.injEq] at hx
  obtain ⟨hx, hs⟩ := hx
  refine runL_run d hb (fun w hw => ⟨Sl (if mx = lo then a else a.map (·.add (lo * sz))) (hi - lo) (mx - lo), w, G, L, ?_, hw, h _⟩) (fun w hw => synR fun _ _ => by have hc_ := hx; unfold chkSl3 at hc_; split at hc_ <;> first | (rename_i hop; exact syn_slOp hop) | cases hc_)
  unfold chkSl3 at hx
  split at hx
  case h_2 => cases hx
  rename_i t x lo' hi' mx' hop
  simp only [Option.some.injEq, Prod.mk.injEq] at hx
  obtain ⟨hxv, hlo, hhi, hmx⟩ := hx
  unfold isSlT at hs
  simp only [hop] at hs
  split at hs
  case h_2 => cases hs
  rename_i e hu
  simp only [Bool.and_eq_true] at hs
  obtain ⟨hsz, hinf⟩ := hs
  obtain rfl := Nat.eq_of_beq_eq_true hsz
  obtain ⟨inf, hi''⟩ := Option.isSome_iff_exists.1 hinf
  have a1 : (0 : Int) ≤ (mx : Int) ∧ (mx : Int) ≤ (cap : Int) := by omega
  have a2 : (0 : Int) ≤ (hi : Int) ∧ (hi : Int) ≤ (mx : Int) := by omega
  have a3 : (0 : Int) ≤ (lo : Int) ∧ (lo : Int) ≤ (hi : Int) := by omega
  unfold execOp
  simp only [hop, hxv, hlo, hhi, hmx, Option.map_some, Instr.sliceAt, Instr.slice, Sem.run_bind, Result.andThen_ok, run_underlying' w hu]
  simp [Instr.sliceBounds, Instr.sliceBound, asIntOf, h1, h2, h3, run_sizeOf' w hi'']
def chkClr (P : Program) (fr : List (Nat × Value)) (o : Oper) (sz : Nat) : Option (Value × List Value) :=
  
  match o.op with
  | .call c => (match c.callee, c.args.toList, c.argTypes.toList with
    | .builtin .clear, [s], [t] =>
      (match P.underlying t with
       | some (.slice e') => (match P.info? e' with
          | some inf => (match inf.zero with
             | some z => bif Nat.beq z.cells.size sz && z.cells.toList.all Value.oneCell' then some (evo fr s, z.cells.toList) else none
             | none => none)
          | none => none)
       | _ => none)
    | _, _, _ => none)
  | _ => none
/-- clear of what lies behind a row's elements. -/
theorem runL_clr {α : Type} {E : Elt α} {a : Option Addr} {cap : Nat} {l : List α} {r : List Seg} (i : Nat) (hr : TRow E G a cap l r) {b off m c' : Nat} (ha : a = At b off) (hm : 0 < m) (hroom : l.length + m ≤ cap)
    (h : ∀ r', TRow E G a cap l r' → RunL C ops Q rest fr G (L.set i r')) (hL : L[i]? = some r := by rfl)
    (hb : baseN C.n ops fr o = true := by as_aux_lemma => kernel_rfl)
    (hc : chkClr C.P fr o E.sz = some (Sl (At b (off + l.length * E.sz)) m c', E.z) := by as_aux_lemma => kernel_rfl) : RunL C ops Q (o :: rest) fr G L := by
  obtain ⟨css, c1, c2, c3⟩ := hr.ex
  have hsz := css_sz c1 c2
  have hfl : css.flatten.length = l.length * E.sz := by rw [flatten_len hsz, c1]
  rcases c3.shape with ⟨h0, hcap, _⟩ | ⟨b', off', spare, h0, rfl, hsp⟩
  · rw [h0] at ha; cases ha
  · rw [h0] at ha
    cases ha
    refine runL_runN hb (fun w hw => ?_) (fun w hw => synRW (by
      have hc_ := hc
      unfold chkClr at hc_
      split at hc_
      case h_2 => cases hc_
      rename_i cl hop
      split at hc_
      case h_2 => cases hc_
      rename_i s t hcal hargs htys
      split at hc_
      case h_2 => cases hc_
      rename_i e' hu
      split at hc_
      case h_2 => cases hc_
      split at hc_
      case h_2 => cases hc_
      generalize (_ && _ : Bool) = q at hc_
      cases q with
      | false => cases hc_
      | true =>
        simp only [cond_true, Option.some.injEq, Prod.mk.injEq] at hc_
        refine syn_clrOp hop hcal hargs htys hu hc_.1 ?_
        obtain ⟨hi', he⟩ := List.getElem?_eq_some_iff.1 hL
        exact (hw.own (Sg b off (css.flatten ++ spare)) (List.mem_flatten.2 ⟨_, he ▸ List.getElem_mem hi', by simp⟩)).1))
    unfold chkClr at hc
    split at hc
    case h_2 => cases hc
    rename_i cl hop
    split at hc
    case h_2 => cases hc
    rename_i s t hcal hargs htys
    split at hc
    case h_2 => cases hc
    rename_i e' hu
    split at hc
    case h_2 => cases hc
    rename_i inf hi
    split at hc
    case h_2 => cases hc
    rename_i z hz
    cases hx : (Nat.beq z.cells.size E.sz && z.cells.toList.all Value.oneCell') with
    | false => rw [hx] at hc; cases hc
    | true =>
      rw [hx] at hc
      simp only [cond_true, Option.some.injEq, Prod.mk.injEq] at hc
      obtain ⟨hc, hzz⟩ := hc
      simp only [Bool.and_eq_true] at hx
      have hzs := Nat.eq_of_beq_eq_true hx.1
      have hone := List.all_eq_true.1 hx.2
      have hag : cl.args = #[s] := by rw [← hargs]
      have ht : cl.argTypes = #[t] := by rw [← htys]
      have hZl : (Builtin.zeroCells z.cells m).toList.length = m * E.sz := by rw [Array.length_toList, zeroCells_size, hzs]
      have hZ1 : ∀ u ∈ (Builtin.zeroCells z.cells m).toList, u.oneCell' = true := by
        intro u hu
        unfold Builtin.zeroCells at hu
        rw [Array.toList_map, List.mem_map] at hu
        obtain ⟨k, hk, rfl⟩ := hu
        rw [Array.toList_range, List.mem_range] at hk
        have hpos : 0 < z.cells.size := Nat.pos_of_ne_zero (fun h0 => by rw [h0] at hk; omega)
        have hlt := Nat.mod_lt k hpos
        rw [getElem!_pos z.cells (k % z.cells.size) hlt]
        exact hone _ (Array.getElem_mem_toList hlt)
      have hroom2 : l.length * E.sz + (Builtin.zeroCells z.cells m).toList.length ≤ (css.flatten ++ spare).length := by
        rw [hZl, List.length_append, hfl, hsp, ← Nat.add_mul, ← Nat.add_mul]
        exact Nat.mul_le_mul_right _ (by omega)
      have hm' : (Sg b off (css.flatten ++ spare)) ∈ L.flatten := by
        obtain ⟨hi', he⟩ := List.getElem?_eq_some_iff.1 hL
        exact List.mem_flatten.2 ⟨_, he ▸ List.getElem_mem hi', by simp⟩
      have hown := (hw.own _ hm').2.1
      simp only at hown
      have hcell : ∀ j, j < (Builtin.zeroCells z.cells m).toList.length → ∃ u, (css.flatten ++ spare)[l.length * E.sz + j]? = some u := fun j hj => ⟨_, List.getElem?_eq_getElem (by omega)⟩
      have hst : (storeCells ⟨b, off + l.length * E.sz, none⟩ (Builtin.zeroCells z.cells m).toList 0).run C.P w = .ok () (putCells w b (off + l.length * E.sz + 0) (Builtin.zeroCells z.cells m).toList) := run_putCells C.P b (off + l.length * E.sz) _ w 0 hZ1
        (fun j hj => by obtain ⟨u, hu⟩ := hcell j hj; have := (hown _ u hu).1; rw [← Nat.add_assoc] at this; exact ⟨u, by simpa using this⟩)
        (fun j hj => by obtain ⟨u, hu⟩ := hcell j hj; have := (hown _ u hu).2.1; rw [← Nat.add_assoc] at this; simpa using this)
      have hSt := hw.store hL (l.length * E.sz) (Builtin.zeroCells z.cells m).toList hroom2
      simp only at hSt
      simp only [Nat.add_zero] at hst
      have hm0 : ¬ m = 0 := by omega
      have hrun : (Builtin.clear_ #[t] o.type #[Sl (At b (off + l.length * E.sz)) m c']).run C.P w = .ok (.tuple #[]) (putCells w b (off + l.length * E.sz) (Builtin.zeroCells z.cells m).toList) := by
        obtain ⟨m', rfl⟩ : ∃ m', m = m' + 1 := ⟨m - 1, by omega⟩
        simp [Builtin.clear_, run_underlying hu, zeroValue, typeInfo, hi, hz, hst]
      refine ⟨.tuple #[], _, G, _, ?_, hSt, h _ ⟨⟨css, c1, c2, ⟨c3.len, c3.le, c3.max, .inr ⟨b, off, (Builtin.zeroCells z.cells m).toList ++ spare.drop (m * E.sz), h0, ?_, ?_⟩⟩⟩, fun s hs => ?_⟩⟩
      · unfold execOp
        simp only [hop, hcal, hag, ht, resolve, invoke, builtin, Sem.run_bind, Sem.run_pure, Result.andThen_ok, List.map_toArray, List.map_cons, List.map_nil, hc, hrun]
      · unfold splice
        rw [← hfl, List.take_left, ← List.drop_drop, List.drop_left, hZl]
      · rw [List.length_append, hZl, List.length_drop, hsp]
        have : m * E.sz ≤ (cap - l.length) * E.sz := Nat.mul_le_mul_right _ (by omega)
        omega
      · rw [List.mem_singleton.1 hs]
        exact (hr.sp _ (List.mem_singleton.2 rfl)).splice (Typed.zeros G hzz m) hroom
theorem Con.up {P : Program} {f : FuncId} {args : Array Value} {G G' : Mem} {v : Value} (hle : Mem.le G G') (h : Con P f args G [] (fun u _ _ => u = v)) : Con P f args G' [] (fun u _ _ => u = v) := by
  intro w0 G0 w hw
  refine ((h w G w (St.start fun b o x hx => hw.mem b o x (hle b o x hx))).lower hw.below.size).mono ?_
  rintro e w' ⟨u, G1, L', rfl, hS, hle', rfl⟩
  have hS' : St w G' w' G' [] := ⟨hS.below, fun b o x hx => (hS.below.cell (p := ⟨b, o, none⟩) (lt_of_cell (hw.mem b o x hx))).trans (hw.mem b o x hx), Mem.le_refl _, fun b o v hv => .inl hv, by simp, by simp⟩
  exact ⟨u, G', [], rfl, hw.call hS', Mem.le_refl _, rfl⟩
/-- A call that only reads a row: the row stays owned. -/
theorem runL_callVr {α : Type} {E : Elt α} {a : Option Addr} {cap : Nat} {l : List α} {r : List Seg} (d i : Nat) (hr : TRow E G a cap l r) (hb : l.length * E.bytes ≤ 281474976710656) {f : FuncId} {args : Array Value} (v : Value)
    (hc : ∀ G', Mem.le G G' → RS E G' a cap l → Con C.P f args G' [] (fun u _ _ => u = v))
    (h : RunL C ops Q rest ((d, v) :: fr) G L) (hi : L[i]? = some r := by rfl)
    (hw : wantedF ops fr o = some true := by rfl) (hd : o.dst = some d := by rfl) (hn : Nat.blt d C.n = true := by rfl) (hsel : isSel o.op = false := by rfl)
    (hcov : o.op.operands.toList.all (cov fr) = true := by as_aux_lemma => kernel_rfl) (hrun : ∀ w, (execOp (evo fr) o).run C.P w = .ok (.enter f args) w := by intro _; as_aux_lemma => kernel_rfl) (hsy : ∀ f g, synB C.P f g (execOp (evo fr) o) 0 = true := by intro _ _; as_aux_lemma => kernel_rfl) :
    RunL C ops Q (o :: rest) fr G L := by
  intro ac w ha hwS
  have hE : execOp ac.eval o = execOp (evo fr) o := execOp_congr _ _ _ (fun cs b e => by rw [e] at hsel; simp [isSel] at hsel)
    (fun x hx => ha.eval x (List.all_eq_true.1 hcov x (by simpa using hx)))
  unfold wpListS
  rw [if_pos (wantedF_eq ha hw)]
  refine .inl ?_
  intro w1 hp1 _
  replace hwS := hwS.push hp1
  have hF := hwS.freeze hi
  have hrs := hr.rs (Mem.le_add G r) hb (frz_fact hwS hr.one hi)
  refine .inr (.inr ⟨f, args, w1, OpR.of (by rw [hE]; exact hrun w1) (by rw [hE]; exact syn_of_B _ 0 hsy), (((hc (G.add r) (Mem.le_add G r) hrs w1 (G.add r) w1 (St.start hF.mem)).lower hwS.below.size).up (noAct_le _)).mono ?_⟩)
  rintro e w' ⟨u, G', L', rfl, hS, hle, rfl⟩
  refine ⟨u, rfl, ?_⟩
  rw [hd]
  have hS' : St w1 G w' G [] := ⟨hS.below, fun b o x hx => (hS.below.cell (p := ⟨b, o, none⟩) (lt_of_cell (hwS.mem b o x hx))).trans (hwS.mem b o x hx), Mem.le_refl _, fun b o v hv => .inl hv, by simp, by simp⟩
  exact h _ _ (ha.put d u (Nat.le_of_ble_eq_true hn)) (hwS.call hS')
theorem encode_ascii {n : Int} (h0 : 0 ≤ n) (h1 : n < 128) : Utf8.encode n = B [UInt8.ofNat n.toNat] := by
  unfold Utf8.encode
  have hv : Utf8.valid n = true := by unfold Utf8.valid; simp; omega
  simp only [hv, if_true]
  rw [if_pos (by omega)]
/-- A letter of ASCII, as a string. -/
theorem runL_r2s (d : Nat) (n : Int) (l : List UInt8) (hn : Utf8.encode n = B l) (h : RunL C ops Q rest ((d, Sr l) :: fr) G L)
    (hb : base C.n ops fr o d = true := by as_aux_lemma => kernel_rfl)
    (hrun : ∀ w, (execOp (evo fr) o).run C.P w = .ok (.value (.string (Utf8.encode n))) w := by intro _; as_aux_lemma => kernel_rfl) (hsy : ∀ f g, synB C.P f g (execOp (evo fr) o) 0 = true := by intro _ _; as_aux_lemma => kernel_rfl) : RunL C ops Q (o :: rest) fr G L :=
  runL_run d hb (fun w hw => ⟨Sr l, w, G, L, by rw [hrun, hn], hw, h⟩) (fun w hw => synR fun _ _ => syn_of_B _ 0 hsy)
end
end Go.Tx
