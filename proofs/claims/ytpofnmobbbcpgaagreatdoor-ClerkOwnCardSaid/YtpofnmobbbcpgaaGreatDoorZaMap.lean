import Derived.Test.YtpofnmobbbcpgaaGreatDoorZaRow
import Derived.Maps.Own
import Derived.CallsIn
import Derived.Shelf.SlIter.Collect
set_option linter.unusedVariables false
set_option linter.unusedSimpArgs false
namespace Go.Tx
open Go.RowKit Go.Proofs Go.Shelf
def MObj (P : Program) (k e : TypeId) (o : Obj) (n : Nat) (D : DataW Unit) : Prop :=
  isOb o = true ∧ ∀ (w : World) (b : Nat), w.heap[b]? = some o → w.ownsMap P k (plainElem P e) b n D
theorem MObj.of {P : Program} {k e : TypeId} {w : World} {b n : Nat} {D : DataW Unit} (h : w.ownsMap P k (plainElem P e) b n D) : ∃ o, w.heap[b]? = some o ∧ MObj P k e o n D := by
  obtain ⟨es, clock, hb, F, hs, hD⟩ := h
  exact ⟨_, hb, rfl, fun w' b' h' => ⟨es, clock, h', F, hs, hD⟩⟩
theorem MObj.empty (P : Program) (k e : TypeId) : MObj P k e (.map #[] 0) 0 (.map []) :=
  ⟨rfl, fun w b h => by
    obtain ⟨es, clock, hb, F, hs, hD⟩ := World.ownsMap_made (H := Unit) default P k (plainElem P e)
    have : es = #[] ∧ clock = 0 := by
      rw [World.alloc_heap_new] at hb; cases hb; exact ⟨rfl, rfl⟩
    obtain ⟨rfl, rfl⟩ := this
    exact ⟨_, _, h, F, hs, hD⟩⟩
def ddAdd (a : List (List UInt8)) (s : List UInt8) : List (List UInt8) := if s ∈ a then a else a ++ [s]
def dd (l : List (List UInt8)) : List (List UInt8) := l.foldl ddAdd []
def nn (l : List (List UInt8)) : Nat := (dd l).length
theorem snocInd {α : Type} {P : List α → Prop} (h0 : P []) (hs : ∀ l x, P l → P (l ++ [x])) (l : List α) : P l := by
  rw [← List.reverse_reverse l]
  induction l.reverse with
  | nil => exact h0
  | cons x t ih => rw [List.reverse_cons]; exact hs _ _ ih
theorem dd_snoc (l : List (List UInt8)) (s : List UInt8) : dd (l ++ [s]) = ddAdd (dd l) s := by simp [dd, List.foldl_append]
theorem dd_mem_ndp (l : List (List UInt8)) : (∀ s, s ∈ dd l ↔ s ∈ l) ∧ (dd l).Nodup := by
  induction l using snocInd with
  | h0 => simp [dd]
  | hs l x ih =>
    rw [dd_snoc]; unfold ddAdd
    split
    · rename_i h
      refine ⟨fun s => ?_, ih.2⟩
      rw [ih.1 s]; simp only [List.mem_append, List.mem_singleton]
      exact ⟨.inl, fun h' => h'.elim id (fun e => e ▸ (ih.1 x).1 h)⟩
    · rename_i h
      refine ⟨fun s => by simp [ih.1 s], List.nodup_append.2 ⟨ih.2, by simp, fun a ha b hb => by simp at hb; subst hb; exact fun e => h (by rw [← e]; exact ha)⟩⟩
theorem len_of_nodup : ∀ (a b : List (List UInt8)), a.Nodup → (∀ x ∈ a, x ∈ b) → a.length ≤ b.length
  | [], b, _, _ => Nat.zero_le _
  | x :: a, b, h, hm => by
    have hx := hm x (by simp)
    have h1 := List.nodup_cons.1 h
    have := len_of_nodup a (b.erase x) h1.2 (fun y hy => (List.mem_erase_of_ne (fun e => h1.1 (by subst e; exact hy))).2 (hm y (by simp [hy])))
    rw [List.length_erase_of_mem hx] at this
    have : 0 < b.length := List.length_pos_of_mem hx
    simp only [List.length_cons]; omega
theorem nn_mono {a b : List (List UInt8)} (h : ∀ x ∈ a, x ∈ b) : nn a ≤ nn b :=
  len_of_nodup _ _ (dd_mem_ndp a).2 (fun x hx => ((dd_mem_ndp b).1 x).2 (h x (((dd_mem_ndp a).1 x).1 hx)))
theorem nn_le (a : List (List UInt8)) : nn a ≤ a.length := len_of_nodup _ _ (dd_mem_ndp a).2 (fun x hx => ((dd_mem_ndp a).1 x).1 hx)
theorem nn_nodup {a : List (List UInt8)} (h : a.Nodup) : nn a = a.length :=
  Nat.le_antisymm (nn_le a) (len_of_nodup _ _ h (fun x hx => ((dd_mem_ndp a).1 x).2 hx))
def Dn (l : List (List UInt8)) : DataW Unit := l.foldl (fun D s => D.put (.string s) (.lit (.bool true))) (.map [])
theorem Dn_snoc (l : List (List UInt8)) (s : List UInt8) : Dn (l ++ [s]) = (Dn l).put (.string s) (.lit (.bool true)) := by simp [Dn, List.foldl_append]
theorem Dn_spec (l : List (List UInt8)) : Maps.Tidy (Dn l) ∧ (∀ s, Maps.has (Dn l) (.string s) = decide (s ∈ l)) ∧ Maps.size (Dn l) = nn l := by
  induction l using snocInd with
  | h0 => exact ⟨Maps.tidy_empty, fun s => by simp [Dn, Maps.has], rfl⟩
  | hs l x ih =>
    obtain ⟨h1, h2, h3⟩ := ih
    have hk : WideAt.IsKeyLit (.string x) := by trivial
    rw [Dn_snoc]
    refine ⟨h1.put hk _, fun s => ?_, ?_⟩
    · by_cases e : s = x
      · subst e; rw [Maps.has_put_same h1.isMap hk]; simp
      · rw [Maps.has_put_other (by simpa using e), h2 s]; simp [e]
    · rw [Maps.size_put h1, h2 x, h3]
      unfold nn; rw [dd_snoc]; unfold ddAdd
      by_cases e : x ∈ l
      · rw [if_pos (by simpa using e), if_pos (((dd_mem_ndp l).1 x).2 e)]
      · rw [if_neg (by simpa using e), if_neg (fun h => e (((dd_mem_ndp l).1 x).1 h))]; simp
theorem Dn_keys (l : List (List UInt8)) : (strKeys (Dn l)).length = nn l := by
  obtain ⟨⟨es, he, _⟩, _, h3⟩ := Dn_spec l
  rw [← h3, he]; simp [strKeys, Maps.size]
theorem St.grewO {w0 w w' : World} {G0 G : Mem} {L : List (List Seg)} {i b : Nat} {x y : Obj} (h : St w0 G0 w G L) (hi : L[i]? = some [Ob b x]) (hg : w.grownBy w' (some b)) (hyb : w'.heap[b]? = some y) (hy : isOb y = true) :
    St w0 G0 w' G (L.set i [Ob b y]) := by
  obtain ⟨A, B, rfl, hset⟩ := split_at hi
  rw [hset]
  have hm : (Ob b x) ∈ (A ++ [Ob b x] :: B).flatten := by simp
  obtain ⟨hB, _, hob, _⟩ := h.own _ hm
  obtain ⟨p1, p2, _, _⟩ := hob x rfl
  simp only at hB p2
  have hlt := (Array.getElem?_eq_some_iff.1 p2).1
  have hne : ∀ b' o v, w.cell? ⟨b', o, none⟩ = some v → b ≠ b' := fun b' o v hv e => by
    have := cell_not_ob hv (e ▸ p2)
    rw [p1] at this; cases this
  have hget : ∀ k, k < w.heap.size → k ≠ b → w'.heap[k]? = w.heap[k]? := fun k hl hk => hg.block k hl (fun e => hk (Option.some.inj e))
  refine St.upd h ((Below.refl w0.heap.size w).grown hg h.below.size (fun k e => by cases e; exact hB)) ?_ ?_ ?_ ?_ ?_ (by simp)
  · intro b' o v hv _
    have hn := hne b' o v hv
    have hl := lt_of_cell hv
    unfold World.cell? World.frozen? at *
    simp only at *
    rw [hget b' hl (fun e => hn e.symm)]
    exact ⟨hv, rfl⟩
  · intro b' z hz
    obtain ⟨c, hh, _⟩ := shape_iff.1 hz
    have hn : b' ≠ b := fun e => by
      subst e
      rw [p2] at hh
      cases x <;> simp [isOb] at p1 hh
    unfold shp at hz ⊢
    rw [hget b' (Array.getElem?_eq_some_iff.1 hh).1 hn]; exact hz
  · intro b' z hz _ hno
    have : b' ≠ b := fun e => hno _ (List.mem_singleton.2 rfl) ⟨e.symm, Nat.le_refl _, by simp [Seg.len]⟩
    rw [hget b' (Array.getElem?_eq_some_iff.1 hz).1 this]; exact hz
  · intro s hs
    obtain rfl : s = _ := by simpa using hs
    refine ⟨hB, by simp, fun z hz => ?_, by simp⟩
    cases hz
    exact ⟨hy, hyb, rfl, rfl⟩
  · intro s hs b' o hh
    obtain rfl : s = _ := by simpa using hs
    exact .inl ⟨_, List.mem_singleton.2 rfl, hh⟩
theorem St.below_ {w0 w w' : World} {G0 G : Mem} {L : List (List Seg)} (h : St w0 G0 w G L) (hb : Below w.heap.size w w') : St w0 G0 w' G L := by
  have hS' : St w G w' G [] := ⟨hb, fun b o v hv => by
    have hc := h.mem b o v hv
    have hl := lt_of_cell hc
    unfold World.cell? at *
    simp only at *
    rw [hb.block b hl]; exact hc, Mem.le_refl _, fun b o v hv => .inl hv, by simp, by simp⟩
  exact h.call hS'
section
variable {C : Cx} {Q : Exit → Act → World → Prop} {fr : List (Nat × Value)} {G : Mem} {L : List (List Seg)} {ops : Array Oper} {rest : List Oper} {o : Oper}
theorem tq_frz1 {e : Exit} (i : Nat) {b o : Nat} {cs : List Value} (h : ∀ G', Mem.le G G' → (∀ j v, cs[j]? = some v → G' b (o + j) = some v) → TQ C Q e fr G' (L.set i []))
    (hi : L[i]? = some [Sg b o cs] := by rfl) : TQ C Q e fr G L :=
  tq_frz i (by simp) hi (fun G' h1 h2 => h G' h1 (fun j v hv => h2 _ (List.mem_singleton.2 rfl) j v hv))
theorem runL_mkmap (d : Nat) (k e : TypeId) (h : ∀ b ob, MObj C.P k e ob 0 (.map []) → RunL C ops Q rest ((d, .map (some b)) :: fr) G ([Ob b ob] :: L))
    (hb : base C.n ops fr o d = true := by as_aux_lemma => kernel_rfl)
    (hc : ∀ w, (execOp (evo fr) o).run C.P w = .ok (.value (.map (some w.heap.size))) (w.alloc (.map #[] 0)) := by intro _; as_aux_lemma => kernel_rfl) : RunL C ops Q (o :: rest) fr G L :=
  runL_run d hb (fun w hw => ⟨_, w.alloc (.map #[] 0), G, _, hc w, hw.allocO _ rfl, h w.heap.size _ (MObj.empty _ _ _)⟩)
def chkMset (fr : List (Nat × Value)) (o : Oper) : Option (TypeId × Value × Value × Value) := match o.op with
  | .mapUpdate t m x v => some (t, evo fr m, evo fr x, evo fr v)
  | _ => none
theorem runL_runS (hb : baseN C.n ops fr o = true)
    (hx : ∀ w, St C.w0 C.G0 w G L → ∃ w' G' L', (execOp (evo fr) o).run C.P w = .ok .skip w' ∧ St C.w0 C.G0 w' G' L' ∧ RunL C ops Q rest fr G' L') :
    RunL C ops Q (o :: rest) fr G L := by
  intro a w ha hw
  unfold baseN at hb
  simp only [Bool.and_eq_true, Option.isNone_iff_eq_none] at hb
  obtain ⟨⟨⟨hd, hwt⟩, hsel⟩, hcov⟩ := hb
  have hE : execOp a.eval o = execOp (evo fr) o := execOp_congr _ _ _ (fun cs b e => by rw [e] at hsel; simp [isSel] at hsel)
    (fun x hx => ha.eval x (List.all_eq_true.1 hcov x (by simpa using hx)))
  have hwant : wantedF ops fr o = some true := by
    cases hx : wantedF ops fr o with
    | none => rw [hx] at hwt; simp [wantB] at hwt
    | some b => rw [hx] at hwt; simp [wantB] at hwt; rw [← hwt]
  obtain ⟨w', G', L', hr, hS, hk⟩ := hx w hw
  unfold wpList
  rw [if_pos (wantedF_eq ha hwant)]
  refine .inl ?_
  unfold Oper.wp
  rw [hE, hr]
  show wpList C.P ops Q rest (a.put o.dst _) _
  rw [hd]
  exact hk _ _ ha hS
theorem runL_mset (i : Nat) (t k e : TypeId) {b n : Nat} {ob : Obj} {D : DataW Unit} {s : List UInt8} (x : Bool) (hm : MObj C.P k e ob n D) (K : Maps.Keyed C.P k) (ht : C.P.underlying t = some (.map k e)) (hks : C.P.underlying k = some .string) (he : C.P.underlying e = some .bool)
    (hs : s.length ≤ maxLen) (hn : n < maxLen)
    (h : ∀ ob', MObj C.P k e ob' (n + 1) (D.put (.string s) (.lit (.bool x))) → RunL C ops Q rest fr G (L.set i [Ob b ob']))
    (hL : L[i]? = some [Ob b ob] := by rfl)
    (hb : baseN C.n ops fr o = true := by as_aux_lemma => kernel_rfl)
    (hc : chkMset fr o = some (t, .map (some b), Sr s, Bo x) := by as_aux_lemma => kernel_rfl) : RunL C ops Q (o :: rest) fr G L := by
  refine runL_runS hb (fun w hw => ?_)
  unfold chkMset at hc
  split at hc
  case h_2 => cases hc
  rename_i t' m' x' v' hop
  simp only [Option.some.injEq, Prod.mk.injEq] at hc
  obtain ⟨rfl, c1, c2, c3⟩ := hc
  have hmem : (Ob b ob) ∈ L.flatten := by
    obtain ⟨hl, he⟩ := List.getElem?_eq_some_iff.1 hL
    exact List.mem_flatten.2 ⟨_, List.getElem_mem hl, by rw [he]; simp⟩
  obtain ⟨_, _, hob, _⟩ := hw.own _ hmem
  obtain ⟨p1, p2, _, _⟩ := hob ob rfl
  have hown := hm.2 w b p2
  have hkey : keyOf C.P k (Sr s) = some (.string s) := by
    have := WideMaps.keyOf_string_mk (P := C.P) hks (s := B s) (by show s.toArray.size ≤ maxLen; simpa using hs)
    simpa using this
  obtain ⟨w', hrun, hown', hg⟩ := hown.update K ht hn hkey (plainElem_bool (H := Unit) he x)
  obtain ⟨ob', q1, q2⟩ := MObj.of hown'
  refine ⟨w', G, _, ?_, hw.grewO hL hg q1 q2.1, h ob' q2⟩
  unfold execOp
  simp only [hop, c1, c2, c3, Sem.run_bind, Bo, hrun, Result.andThen_ok, Sem.run_pure]
theorem runL_keys (d : Nat) {ρ : Ren} (L7 : SlLaysZ.n7 C.P ρ) {b : Nat} (h : ∀ bk, RunL C ops Q rest ((d, .func (.func (ρ.f 10)) #[] #[Pt bk 0]) :: fr) G ([Sg bk 0 [.map (some b)]] :: L))
    (hw : wantedF ops fr o = some true := by rfl) (hd : o.dst = some d := by rfl) (hn : Nat.blt d C.n = true := by rfl) (hsel : isSel o.op = false := by rfl)
    (hcov : o.op.operands.toList.all (cov fr) = true := by as_aux_lemma => kernel_rfl) (hrun : ∀ w, (execOp (evo fr) o).run C.P w = .ok (.enter (ρ.f 7) #[.map (some b)]) w := by intro _; as_aux_lemma => kernel_rfl) :
    RunL C ops Q (o :: rest) fr G L := by
  intro a w ha hwS
  have hE : execOp a.eval o = execOp (evo fr) o := execOp_congr _ _ _ (fun cs b e => by rw [e] at hsel; simp [isSel] at hsel)
    (fun x hx => ha.eval x (List.all_eq_true.1 hcov x (by simpa using hx)))
  unfold wpList
  rw [if_pos (wantedF_eq ha hw)]
  refine .inl ?_
  unfold Oper.wp
  rw [hE, hrun]
  refine (callsIn_wide.1 (AnyZ.keys_in L7 Fence.wide 0 trivial rfl (some b) w)).mono ?_
  rintro e w' ⟨rfl, rfl⟩
  show wpList C.P ops Q rest (a.put o.dst _) _
  rw [hd]
  exact h _ _ _ (ha.put d _ (Nat.le_of_ble_eq_true hn)) (hwS.alloc _ _)
theorem runL_collect (d i j : Nat) {ρ : Ren} (L8 : SlLaysZ.n8 C.P ρ) (L10 : SlLaysZ.n10 C.P ρ) {b bk n : Nat} {e : TypeId} {ob : Obj} {D : DataW Unit} (hm : MObj C.P (ρ.t 26) e ob n D) (hsz : Maps.size D ≤ 1000000)
    (h : ∀ a c, RunL C ops Q rest ((d, Sl a (strKeys D).length c) :: fr) G L)
    (hi : L[i]? = some [Ob b ob] := by rfl) (hj : L[j]? = some [Sg bk 0 [.map (some b)]] := by rfl)
    (hw : wantedF ops fr o = some true := by rfl) (hd : o.dst = some d := by rfl) (hn : Nat.blt d C.n = true := by rfl) (hsel : isSel o.op = false := by rfl)
    (hcov : o.op.operands.toList.all (cov fr) = true := by as_aux_lemma => kernel_rfl) (hrun : ∀ w, (execOp (evo fr) o).run C.P w = .ok (.enter (ρ.f 8) #[.func (.func (ρ.f 10)) #[] #[Pt bk 0]]) w := by intro _; as_aux_lemma => kernel_rfl) :
    RunL C ops Q (o :: rest) fr G L := by
  intro a w ha hwS
  have hE : execOp a.eval o = execOp (evo fr) o := execOp_congr _ _ _ (fun cs b e => by rw [e] at hsel; simp [isSel] at hsel)
    (fun x hx => ha.eval x (List.all_eq_true.1 hcov x (by simpa using hx)))
  unfold wpList
  rw [if_pos (wantedF_eq ha hw)]
  refine .inl ?_
  unfold Oper.wp
  rw [hE, hrun]
  have m1 : (Ob b ob) ∈ L.flatten := by
    obtain ⟨hl, he⟩ := List.getElem?_eq_some_iff.1 hi
    exact List.mem_flatten.2 ⟨_, List.getElem_mem hl, by rw [he]; simp⟩
  have m2 : (Sg bk 0 [.map (some b)]) ∈ L.flatten := by
    obtain ⟨hl, he⟩ := List.getElem?_eq_some_iff.1 hj
    exact List.mem_flatten.2 ⟨_, List.getElem_mem hl, by rw [he]; simp⟩
  obtain ⟨_, _, hob, _⟩ := hwS.own _ m1
  obtain ⟨_, p2, _, _⟩ := hob ob rfl
  have hown := hm.2 w b p2
  have hcell := ((hwS.own _ m2).2.1 0 _ rfl).1
  simp only [Nat.add_zero] at hcell
  have hseq : SeqGives Fence.wide (3 - 1 - 1) C.P (ρ.f 10) #[.pointer (some ⟨bk, 0, none⟩)] encStr (fun ss => ss.Perm (strKeys D)) (Maps.size D) w :=
    AnyZ.keys_gives L10 Fence.wide (3 - 1 - 1) trivial rfl (by decide) bk b n D w (lt_of_cell hcell) hcell hown
  refine (callsIn_wide.1 (AnyZ.collect_in L8 Fence.wide 3 trivial trivial rfl (by decide) (ρ.f 10) #[.pointer (some ⟨bk, 0, none⟩)] trivial (L10.f10.enters rfl) _ (Maps.size D) (Nat.le_trans hsz (by decide)) (by omega) w hseq)).mono ?_
  rintro e w' ⟨v, ss, rfl, hS, hrow, hnil, hb⟩
  have hlen : ss.length = (strKeys D).length := hS.length_eq
  obtain ⟨aa, c, rfl⟩ : ∃ aa c, v = Sl aa (strKeys D).length c := by
    rw [← hlen]
    rcases hrow.2 with ⟨rfl, h0⟩ | ⟨g, cap, cur, rfl, _⟩
    · exact ⟨none, 0, by rw [h0]⟩
    · exact ⟨_, _, rfl⟩
  show wpList C.P ops Q rest (a.put o.dst _) w'
  rw [hd]
  exact h _ _ _ _ (ha.put d _ (Nat.le_of_ble_eq_true hn)) (hwS.below_ hb)
theorem runL_mkrow {α : Type} {E : Elt α} (d t e n : Nat) {z : Value} {lo co : Operand} {bytes : Nat} (x0 : α) (hE : E.sz = 1 ∧ z.cells = #[z] ∧ (∀ G, E.R G [z] x0)) (h63 : n ≤ 9223372036854775807) (hby : n * bytes ≤ 281474976710656)
    (hi : (C.P.info? e).map (fun i => (i.zero, i.size, i.bytes)) = some (some z, 1, bytes))
    (h : ∀ a r, TRow E G a n (List.replicate n x0) r → RunL C ops Q rest ((d, Sl a (List.replicate n x0).length n) :: fr) G (r :: L))
    (hb : base C.n ops fr o d = true := by as_aux_lemma => kernel_rfl)
    (hop : o.op = .makeSlice t lo co := by rfl) (ht : C.P.underlying t = some (.slice e) := by as_aux_lemma => kernel_rfl)
    (hlo : evo fr lo = I (n : Int) := by as_aux_lemma => kernel_rfl) (hco : evo fr co = I (n : Int) := by as_aux_lemma => kernel_rfl) : RunL C ops Q (o :: rest) fr G L := by
  simp only [List.length_replicate] at h
  refine runL_run d hb (fun w hw => ?_)
  obtain ⟨inf, hinf, hz, hsz, hbs⟩ := info_parts hi
  have hbn : (inf.bytes : Int) * (n : Int) ≤ 281474976710656 := by
    have h2 : (inf.bytes : Int) * n = ((n * bytes : Nat) : Int) := by rw [Int.natCast_mul, Int.mul_comm, hbs]
    omega
  have hm := run_make (P := C.P) w t e inf z ht hinf hz .i64 .i64 n n (by omega) (Int.le_refl _) hbn (by omega)
  simp only [Int.toNat_natCast, hsz, Nat.mul_one] at hm
  have hmc : (madeCells z.cells n).toList = List.replicate n z := by
    apply List.ext_getElem
    · simp [size_madeCells]
    · intro k h1 h2
      simp only [madeCells, Array.toList_map, List.getElem_map, List.getElem_replicate, hE.2.1]
      simp [Nat.mod_one]
  refine ⟨_, _, G, _, ?_, hw.alloc (madeCells z.cells n) e, h (At w.heap.size 0) _ ⟨⟨List.replicate n [z], by simp, fun k x hx => ?_, ?_⟩, fun s hs => ?_⟩⟩
  · unfold execOp
    simp only [hop, hlo, hco, Sem.run_bind, hm, Result.andThen_ok, Sem.run_pure]
  · have hk := (List.getElem?_eq_some_iff.1 hx).1
    simp only [List.length_replicate] at hk
    rw [List.getElem?_replicate, if_pos hk] at hx
    rw [← Option.some.inj hx]
    exact ⟨[z], by rw [List.getElem?_replicate, if_pos hk], hE.2.2 G⟩
  · have hf : (List.replicate n [z]).flatten = List.replicate n z := by simp [List.flatten_replicate_singleton]
    rw [hf, hmc, List.length_replicate, hE.1]
    exact Row.lit (by simp) h63
  · rw [List.mem_singleton.1 hs]
    refine ⟨List.replicate n [z], by simp, ?_, fun cs hc => ⟨x0, by rw [(List.mem_replicate.1 hc).2]; exact hE.2.2 G⟩⟩
    rw [hmc]; simp [List.flatten_replicate_singleton]
theorem RS.cellsR {α : Type} {E : Elt α} {G : Mem} {ax : Option Addr} {capx : Nat} {ys : List α} (hy : RS E G ax capx ys) : ∃ dss : List (List Value), dss.length = ys.length ∧ (∀ (k : Nat) y, ys[k]? = some y → ∃ cs, dss[k]? = some cs ∧ E.R G cs y) ∧
    ∀ w : World, (∀ b o v, G b o = some v → w.cell? ⟨b, o, none⟩ = some v) → Reads E.sz w ax ys.length dss.flatten := by
  have hcell : ∃ dss : List (List Value), dss.length = ys.length ∧ (∀ (k : Nat) y, ys[k]? = some y → ∃ cs, dss[k]? = some cs ∧ E.R G cs y) ∧
      (∀ ad, ax = some ad → ∀ (k : Nat) cs (j : Nat) v, dss[k]? = some cs → cs[j]? = some v → G ad.block (ad.off + k * E.sz + j) = some v) := by
    cases ax with
    | none =>
      have : ys = [] := List.eq_nil_of_length_eq_zero (by have := hy.nil rfl; have := hy.le; omega)
      subst this
      exact ⟨[], rfl, by simp, by simp⟩
    | some ad =>
      have hch : ∀ k : Nat, ∃ cs, ∀ y, ys[k]? = some y → E.R G cs y ∧ ∀ j v, cs[j]? = some v → G ad.block (ad.off + k * E.sz + j) = some v := by
        intro k
        cases hk : ys[k]? with
        | none => exact ⟨[], by simp⟩
        | some y => obtain ⟨cs, p1, p2⟩ := hy.elem ad rfl k y hk; exact ⟨cs, fun y' hy' => by cases hy'; exact ⟨p1, p2⟩⟩
      let f : Nat → List Value := fun k => Classical.choose (hch k)
      have hf : ∀ (k : Nat) y, ys[k]? = some y → E.R G (f k) y ∧ ∀ j v, (f k)[j]? = some v → G ad.block (ad.off + k * E.sz + j) = some v := fun k => Classical.choose_spec (hch k)
      refine ⟨(List.range ys.length).map f, by simp, ?_, ?_⟩
      · intro k y hk
        have hlt := (List.getElem?_eq_some_iff.1 hk).1
        exact ⟨f k, by simp [hlt], (hf k y hk).1⟩
      · intro ad' had k cs j v hk hv
        cases had
        have hlt : k < ys.length := by have := (List.getElem?_eq_some_iff.1 hk).1; simpa using this
        have hcs : f k = cs := by simpa [hlt] using hk
        rw [← hcs] at hv
        exact (hf k _ (List.getElem?_eq_getElem hlt)).2 j v hv
  obtain ⟨dss, d1, d2, d3⟩ := hcell
  have dsz := css_sz d1 d2
  refine ⟨dss, d1, d2, fun w hmem => ⟨by rw [flatten_len dsz, d1], fun ha => by have := hy.nil ha; have := hy.le; omega, fun ad ha j v hv => ?_⟩⟩
  have hsp := hy.spot ad ha (by
    have hj := (List.getElem?_eq_some_iff.1 hv).1
    rw [flatten_len dsz] at hj
    have h0 : 0 < ys.length := by
      rcases Nat.eq_zero_or_pos ys.length with h0 | h0
      · rw [d1, h0] at hj; omega
      · exact h0
    have := hy.le; omega)
  obtain ⟨ab, ao, asp⟩ := ad
  simp only at hsp
  subst hsp
  rw [addr_add]
  refine hmem _ _ _ ?_
  have hj := (List.getElem?_eq_some_iff.1 hv).1
  rw [flatten_len dsz] at hj
  have hpos : 0 < E.sz := by
    rcases Nat.eq_zero_or_pos E.sz with h0 | h0
    · rw [h0] at hj; omega
    · exact h0
  have hk : j / E.sz < dss.length := (Nat.div_lt_iff_lt_mul hpos).2 hj
  have hmod := Nat.mod_lt j hpos
  have hcs := dsz _ (List.getElem_mem hk)
  have hget : (dss[j / E.sz])[j % E.sz]? = some v := by
    have := flatten_get dsz (j / E.sz) _ (j % E.sz) ((dss[j / E.sz])[j % E.sz]'(by omega)) (List.getElem?_eq_getElem hk) (List.getElem?_eq_getElem (by omega))
    rw [Nat.div_add_mod' j E.sz, hv] at this
    rw [List.getElem?_eq_getElem (by omega)]; exact this.symm
  have := d3 _ ha (j / E.sz) _ (j % E.sz) v (List.getElem?_eq_getElem hk) hget
  simp only at this
  rwa [Nat.add_assoc, Nat.div_add_mod' j E.sz] at this
theorem runL_appF1 {α : Type} {E : Elt α} {a : Option Addr} {l : List α} (d e j : Nat) {b : Nat} {cs : List Value} (x : α) (hr : RS E G a l.length l) (hx : E.R G cs x)
    (h63 : l.length + 1 ≤ 9223372036854775807) (hby : (l.length + 1) * E.bytes ≤ 140737488355328)
    (h : ∀ a' cap' r', TRow E G a' cap' (l ++ [x]) r' → RunL C ops Q rest ((d, Sl a' (l ++ [x]).length cap') :: fr) G (r' :: L))
    (hj : L[j]? = some [Sg b 0 cs] := by rfl)
    (hb : base C.n ops fr o d = true := by as_aux_lemma => kernel_rfl)
    (hc : chkApp C.P fr o e E.sz E.bytes = some (Sl a l.length l.length, Sl (At b 0) 1 1, E.z) := by as_aux_lemma => kernel_rfl) : RunL C ops Q (o :: rest) fr G L := by
  obtain ⟨t, ty, inf, z, hu, hi, hz, hzs, hsz, hbs, hzz, hrun⟩ := run_app hc
  obtain ⟨dss, d1, d2, d3⟩ := hr.cellsR
  refine runL_run d hb (fun w hw => ?_)
  have hms : (Sg b 0 cs) ∈ L.flatten := by
    obtain ⟨hi', he⟩ := List.getElem?_eq_some_iff.1 hj
    exact List.mem_flatten.2 ⟨_, he ▸ List.getElem_mem hi', by simp⟩
  have hown := (hw.own _ hms).2.1
  simp only [Nat.zero_add] at hown
  have hnl : cs.length = 1 * inf.size := by rw [E.len hx, hsz]; simp
  have hnews : ∀ k v, cs[k]? = some v → w.cell? ((⟨b, 0, none⟩ : Addr).add k) = some v := fun k v hv => by
    rw [addr_add, Nat.zero_add]; exact (hown k v hv).1
  obtain ⟨r1, r2, r3⟩ := d3 w hw.mem
  rw [← hsz] at r1
  have hby2 : (l.length + 1) * inf.bytes ≤ 140737488355328 := by rw [hbs]; exact hby
  have hnx : Builtin.nextslicecap (l.length + 1) l.length * inf.bytes ≤ 281474976710656 := growslice_fits (by omega) hby2
  have fin : ∀ (old : Nat) (res : Result Value), res = .ok (.slice (some ⟨w.heap.size, 0, none⟩) (l.length + 1) (grownCap w (l.length + 1) old e)) (w.drew.alloc (.cells (dss.flatten.toArray ++ cs.toArray ++ Builtin.zeroCells z.cells (grownCap w (l.length + 1) old e - (l.length + 1))) e)) →
      (Builtin.append_ #[t, t] ty #[.slice a l.length l.length, .slice (At b 0) 1 1]).run C.P w = res →
      ∃ v w' G' L', (execOp (evo fr) o).run C.P w = .ok (.value v) w' ∧ St C.w0 C.G0 w' G' L' ∧ RunL C ops Q rest ((d, v) :: fr) G' L' := by
    intro old res hres hap
    have hlen : (l ++ [x]).length = l.length + 1 := by simp
    refine ⟨_, _, G, _, by rw [hrun, hap, hres]; rfl, (hw.drew).alloc _ e, ?_⟩
    rw [← hlen]
    refine h _ _ _ ⟨⟨dss ++ [cs], by simp [d1], ?_, ?_⟩, fun s hs => ?_⟩
    · intro k y hy
      by_cases hlt : k < l.length
      · rw [List.getElem?_append_left hlt] at hy
        obtain ⟨cs', p1, p2⟩ := d2 k y hy
        exact ⟨cs', by rw [List.getElem?_append_left (by omega)]; exact p1, p2⟩
      · rw [List.getElem?_append_right (by omega)] at hy
        have hk : k - l.length = 0 := by
          have := (List.getElem?_eq_some_iff.1 hy).1; simp at this; omega
        rw [hk] at hy
        obtain rfl : x = y := by simpa using hy
        exact ⟨cs, by rw [List.getElem?_append_right (by omega), d1, hk]; rfl, hx⟩
    · rw [List.flatten_append, hlen, ← hsz]
      refine ⟨by rw [List.length_append, r1]; simp [hnl, Nat.add_mul], grownCap_ge w _ old e, ?_, .inr ⟨w.heap.size, 0, (Builtin.zeroCells z.cells (grownCap w (l.length + 1) old e - (l.length + 1))).toList, rfl, by simp, ?_⟩⟩
      · have := grownCap_le_maxLen w (l.length + 1) old e (by simp only [maxLen]; omega)
        simp only [maxLen] at this; omega
      · rw [Array.length_toList, zeroCells_size, hzs]
    · rw [List.mem_singleton.1 hs]
      have hge := grownCap_ge w (l.length + 1) old e
      have := ((Typed.of d1 d2).app (Typed.one hx)).app (Typed.zeros (E := E) G hzz (grownCap w (l.length + 1) old e - (l.length + 1)))
      rw [show l.length + 1 + (grownCap w (l.length + 1) old e - (l.length + 1)) = grownCap w (l.length + 1) old e by omega] at this
      simpa using this
  cases a with
  | none =>
    have h0 : l.length = 0 := hr.nil rfl
    have hl : l = [] := List.eq_nil_of_length_eq_zero h0
    subst hl
    have hd0 : dss = [] := List.eq_nil_of_length_eq_zero (by simpa using d1)
    subst hd0
    have hap := run_append_nil (P := C.P) w t ty e inf z hu hi hz ⟨b, 0, none⟩ 1 1 cs hnl hnews (by omega) (by omega) (by have h9 := hby2; simp only [List.length_nil, Nat.zero_add] at h9; omega)
    exact fin 0 _ (by simp) hap
  | some ad =>
    have hap := run_append_grow (P := C.P) w t ty e inf z hu hi hz ad l.length l.length dss.flatten r1 (r3 ad rfl) ⟨b, 0, none⟩ 1 1 cs hnl hnews (by omega) (by omega) hnx
    exact fin l.length _ rfl hap
end
end Go.Tx
