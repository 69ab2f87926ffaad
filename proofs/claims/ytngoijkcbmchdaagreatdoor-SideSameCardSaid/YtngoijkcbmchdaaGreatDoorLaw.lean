/- From a contract of this proof's own kind to a law's row: what the arguments read as; the post-condition. -/
import Derived.Test.YtngoijkcbmchdaaGreatDoorRows
import Derived.Test.YtngoijkcbmchdaaGreatDoorEng
import Derived.WalkKit
import Derived.ProofKit
import Derived.OpenShut
import Derived.JoinedCond
import Derived.SizedLaws
import Derived.Deep.CondSized
import Derived.WideKeyArgs
import Derived.Carry
set_option linter.unusedVariables false
set_option linter.unusedSimpArgs false
namespace Go.Proofs.YtngoijkcbmchdaaGreatDoor
open Go.Tx
open Go.ChangeShapes Go.WideShapes Go.ChangeAt Go.RowKit

/-! ### What is readable -/
def RdF (rec : TypeId → List Value → Nat → Prop) (P : Program) (cs : List Value) : List Field → Nat → Prop
  | [], _ => True
  | f :: fs, n => ∃ m r, m + r ≤ n ∧ rec f.type ((cs.drop f.offset).take (P.cellsOf f.type)) m ∧ RdF rec P cs fs r
def Rd (P : Program) (G : Mem) : Nat → TypeId → List Value → Nat → Prop
  | 0, _, _, _ => False
  | d + 1, t, cs, n => match P.underlying t with
    | some .bool => ∃ b, cs = [Bo b]
    | some (.int k) => ∃ m, cs = [.int k m] ∧ (Lit.int k m).wf = true
    | some .string => ∃ l : List UInt8, cs = [Sr l] ∧ l.length ≤ 140737488351232 ∧ l.length + 1 ≤ n
    | some (.slice e) => cs = [.slice none 0 0] ∨ ∃ a len cap, cs = [.slice (some a) len cap] ∧ len ≤ cap ∧ cap ≤ 9223372036854775807 ∧ cap * P.bytesOf e ≤ 140737488351232 ∧ (0 < cap → 0 < P.cellsOf e → a.spot = none) ∧
        ∃ ns : List Nat, ns.length = len ∧ ns.sum + 1 ≤ n ∧ ∀ i m, ns[i]? = some m → ∃ es, es.length = P.cellsOf e ∧ (∀ j v, es[j]? = some v → G a.block (a.off + i * P.cellsOf e + j) = some v) ∧ Rd P G d e es m
    | some (.struct fs) => cs.length = P.cellsOf t ∧ RdF (Rd P G d) P cs fs.toList n
    | some (.array k e) => cs.length = P.cellsOf t ∧ ∃ ns : List Nat, ns.length = k ∧ ns.sum ≤ n ∧ ∀ i m, ns[i]? = some m → Rd P G d e ((cs.drop (i * P.cellsOf e)).take (P.cellsOf e)) m
    | _ => True
def memOf (w : World) : Mem := fun b o => w.cell? ⟨b, o, none⟩

section
variable {H : Type} {enc : TypeId × Value → H} {P : Program} {w : World}
theorem uptoBulkAll_eq : ∀ (ds : List (DataW H)), Rows.uptoBulkAll ds = (ds.map Rows.uptoBulk).sum
  | [] => rfl
  | d :: r => by rw [Rows.uptoBulkAll, uptoBulkAll_eq r]; simp
theorem weightsAll_mem (P : Program) (e : TypeId) : ∀ (ds : List (DataW H)) (d : DataW H) (x : Nat), d ∈ ds → x ∈ d.weights P e → x ∈ DataW.weightsAll P e ds
  | [], d, x, h, _ => by cases h
  | c :: r, d, x, h, hx => by
    rw [DataW.weightsAll]
    rcases List.mem_cons.1 h with rfl | h
    · exact List.mem_append_left _ hx
    · exact List.mem_append_right _ (weightsAll_mem P e r d x h hx)

theorem cells_get {a : Addr} {n : Nat} {cs : List Value} (h : w.cells? 0 a n = some cs) : cs.length = n ∧ (∀ j v, cs[j]? = some v → memOf w a.block (a.off + j) = some v) ∧ (0 < n → a.spot = none) := by
  unfold World.cells? at h
  rw [if_pos (Nat.zero_le _)] at h
  have hl := mapM_some_length h
  rw [List.length_range] at hl
  have key : ∀ j v, cs[j]? = some v → w.cell? (a.add j) = some v := by
    intro j v hv
    have hj : j < n := by rw [← hl]; exact (List.getElem?_eq_some_iff.1 hv).1
    rw [mapM_some_get h j j (by simp [hj]), hv]
  refine ⟨hl, fun j v hv => ?_, fun hn => ?_⟩
  · have := key j v hv
    by_cases h0 : j = 0
    · subst h0
      obtain ⟨b, o, sp⟩ := a
      cases sp with
      | none => simpa [Addr.add, memOf] using this
      | some s => simp [Addr.add, World.cell?] at this; split at this <;> simp at this
    · rw [Addr.add, if_neg h0] at this
      exact this
  · obtain ⟨v, hv⟩ : ∃ v, cs[0]? = some v := ⟨_, List.getElem?_eq_getElem (by omega)⟩
    have := key 0 v hv
    obtain ⟨b, o, sp⟩ := a
    cases sp with
    | none => rfl
    | some s => simp [Addr.add, World.cell?] at this; split at this <;> simp at this
theorem B_of (s : ByteArray) : Value.string s = Sr s.data.toList := by
  obtain ⟨⟨l⟩⟩ := s
  rfl
theorem sum_eq_ofFn_le {α : Type} (f : α → Nat) (l : List α) (i : Nat) (x : α) (h : l[i]? = some x) : f x ≤ (l.map f).sum := by
  have : x ∈ l := List.mem_of_getElem? h
  induction l generalizing i with
  | nil => cases this
  | cons a r ih =>
    rw [List.map_cons, List.sum_cons]
    rcases List.mem_cons.1 this with rfl | hm
    · omega
    · obtain ⟨k, hk⟩ := List.mem_iff_getElem?.1 hm
      have := ih k hk hm
      omega
theorem rdF_mono {rec : TypeId → List Value → Nat → Prop} {cs : List Value} : ∀ (fs : List Field) {n m : Nat}, n ≤ m → RdF rec P cs fs n → RdF rec P cs fs m
  | [], _, _, _, _ => trivial
  | f :: fs, n, m, h, ⟨x, y, h1, h2, h3⟩ => ⟨x, y, Nat.le_trans h1 h, h2, h3⟩
theorem rdF_of {d : Nat} {cs : List Value} (ih : ∀ t cs dt ps, DataW.trod enc P w 0 (fun _ => true) true d t cs = some (dt, ps) → (∀ x ∈ DataW.weights P t dt, x ≤ reachBytes) → Rd P (memOf w) d t cs (Rows.uptoBulk dt)) :
    ∀ (fs : List Field) (xs : List (DataW H × List MemPlace)), fs.mapM (fun f => DataW.trod enc P w 0 (fun _ => true) true d f.type ((cs.drop f.offset).take (P.cellsOf f.type))) = some xs →
      (∀ x ∈ DataW.weightsEach P (fs.map (·.type)) (xs.map (·.1)), x ≤ reachBytes) → RdF (Rd P (memOf w) d) P cs fs (Rows.uptoBulkAll (xs.map (·.1)))
  | [], xs, _, _ => trivial
  | f :: fs, xs, h, hw => by
    rw [List.mapM_cons] at h
    simp only [bind, Option.bind_eq_some_iff, pure, Option.some.injEq] at h
    obtain ⟨⟨dt, ps⟩, h1, ys, h2, rfl⟩ := h
    simp only [List.map_cons, DataW.weightsEach, List.mem_append] at hw
    refine ⟨Rows.uptoBulk dt, Rows.uptoBulkAll (ys.map (·.1)), ?_, ih _ _ _ _ h1 (fun x hx => hw x (.inl hx)), rdF_of ih fs ys h2 (fun x hx => hw x (.inr hx))⟩
    simp [Rows.uptoBulkAll]
theorem rd_of_trod : ∀ (d : Nat) (t : TypeId) (cs : List Value) (dt : DataW H) (ps : List MemPlace), DataW.trod enc P w 0 (fun _ => true) true d t cs = some (dt, ps) → (∀ x ∈ DataW.weights P t dt, x ≤ reachBytes) →
    Rd P (memOf w) d t cs (Rows.uptoBulk dt)
  | 0, _, _, _, _, h, _ => by simp [DataW.trod] at h
  | d + 1, t, cs, dt, ps, h, hw => by
    have ih := rd_of_trod d
    unfold Rd
    cases hu : P.underlying t with
    | none => trivial
    | some k =>
      cases k with
      | bool =>
        simp only
        unfold DataW.trod at h
        rw [hu] at h
        split at h <;> simp_all
      | int k =>
        simp only
        unfold DataW.trod at h
        rw [hu] at h
        split at h <;> simp_all
      | string =>
        simp only
        unfold DataW.trod at h
        rw [hu] at h
        split at h <;> try simp_all
        rename_i s
        obtain ⟨h1, rfl, h2⟩ := h
        have := hw s.data.toList.length (by simp [DataW.weights])
        refine ⟨s.data.toList, Value.string.inj (B_of s), ?_, ?_⟩
        · simpa [reachBytes] using this
        · simp [Rows.uptoBulk]
      | slice e =>
        simp only
        unfold DataW.trod at h
        rw [hu] at h
        split at h <;> try (exfalso; simp_all; done)
        · exact .inl rfl
        · rename_i e' a len cap heq
          cases heq
          dsimp only at h
          split at h
          · rename_i hc
            simp only [if_true, Option.bind_eq_some_iff, Option.map_eq_some_iff, Prod.mk.injEq] at h
            obtain ⟨xs, h1, ys, h2, rfl, _⟩ := h
            have l1 := mapM_some_length h1
            have l2 := mapM_some_length h2
            rw [List.length_range] at l1 l2
            simp only [DataW.weights, hu, List.mem_cons, List.mem_append, List.length_map] at hw
            have hsz := hw _ (.inl rfl)
            have get : ∀ i z, i < len → xs[i]? = some z → ∃ cs, w.cells? 0 (a.add (i * P.cellsOf e)) (P.cellsOf e) = some cs ∧ DataW.trod enc P w 0 (fun _ => true) true d e cs = some z := by
              intro i z hi hz
              have := mapM_some_get h1 i i (by simp [hi])
              rw [hz] at this
              exact Option.bind_eq_some_iff.1 this
            have get2 : ∀ i z, i < cap - len → ys[i]? = some z → ∃ cs, w.cells? 0 (a.add ((len + i) * P.cellsOf e)) (P.cellsOf e) = some cs ∧ DataW.trod enc P w 0 (fun _ => true) true d e cs = some z := by
              intro i z hi hz
              have := mapM_some_get h2 i i (by simp [hi])
              rw [hz] at this
              exact Option.bind_eq_some_iff.1 this
            refine .inr ⟨a, len, cap, rfl, hc.2.1, hc.2.2, ?_, fun hc0 he0 => ?_, xs.map fun z => Rows.uptoBulk z.1, by simp [l1], ?_, ?_⟩
            · rw [l1, l2, show len + (cap - len) = cap by omega] at hsz
              simpa [reachBytes] using hsz
            · by_cases hl : 0 < len
              · obtain ⟨z, hz⟩ : ∃ z, xs[0]? = some z := ⟨_, List.getElem?_eq_getElem (by omega)⟩
                obtain ⟨cs, hcs, _⟩ := get 0 z hl hz
                have := (cells_get hcs).2.2 he0
                simpa [Addr.add] using this
              · obtain ⟨z, hz⟩ : ∃ z, ys[0]? = some z := ⟨_, List.getElem?_eq_getElem (by omega)⟩
                obtain ⟨cs, hcs, _⟩ := get2 0 z (by omega) hz
                have := (cells_get hcs).2.2 he0
                rw [show len = 0 by omega] at this
                simpa [Addr.add] using this
            · simp [Rows.uptoBulk, uptoBulkAll_eq, Function.comp_def]
            · intro i m hm
              rw [List.getElem?_map, Option.map_eq_some_iff] at hm
              obtain ⟨z, hz, rfl⟩ := hm
              have hi : i < len := by rw [← l1]; exact (List.getElem?_eq_some_iff.1 hz).1
              obtain ⟨cs, hcs, hz'⟩ := get i z hi hz
              obtain ⟨c1, c2, c3⟩ := cells_get hcs
              refine ⟨cs, c1, fun j v hv => ?_, ih _ _ _ _ hz' (fun x hx => hw x (.inr (.inl (weightsAll_mem P e _ z.1 x (List.mem_map.2 ⟨z, List.mem_of_getElem? hz, rfl⟩) hx))))⟩
              have := c2 j v hv
              unfold Addr.add at this
              split at this
              · rename_i h0; rw [h0]; simpa using this
              · exact this
          · cases h
      | struct fs =>
        simp only
        unfold DataW.trod at h
        rw [hu] at h
        split at h <;> try (exfalso; simp_all; done)
        rename_i fs' heq
        cases heq
        split at h
        · rename_i hc
          rw [Option.map_eq_some_iff] at h
          obtain ⟨xs, h1, h2⟩ := h
          cases h2
          simp only [DataW.weights, hu] at hw
          refine ⟨hc, ?_⟩
          have := rdF_of ih fs.toList xs h1 hw
          revert this
          generalize fs.toList = fl
          rw [Rows.uptoBulk]
          exact rdF_mono fl (Nat.le_succ _)
        · cases h
      | array k e =>
        simp only
        unfold DataW.trod at h
        rw [hu] at h
        split at h <;> try (exfalso; simp_all; done)
        rename_i k' e' heq
        cases heq
        split at h
        · rename_i hc
          rw [Option.map_eq_some_iff] at h
          obtain ⟨xs, h1, h2⟩ := h
          cases h2
          have l1 := mapM_some_length h1
          rw [List.length_range] at l1
          simp only [DataW.weights, hu] at hw
          refine ⟨hc, xs.map fun z => Rows.uptoBulk z.1, by simp [l1], by simp [Rows.uptoBulk, uptoBulkAll_eq, Function.comp_def], ?_⟩
          intro i m hm
          rw [List.getElem?_map, Option.map_eq_some_iff] at hm
          obtain ⟨z, hz, rfl⟩ := hm
          have hi : i < k := by rw [← l1]; exact (List.getElem?_eq_some_iff.1 hz).1
          have := mapM_some_get h1 i i (by simp [hi])
          rw [hz] at this
          exact ih _ _ _ _ this (fun x hx => hw x (weightsAll_mem P e _ z.1 x (List.mem_map.2 ⟨z, List.mem_of_getElem? hz, rfl⟩) hx))
        · cases h
      | _ => trivial

/-! ### The post-condition: the input reads as it did -/
theorem trodAll_stays (hl : laidOutB P = true) {W W' : World} (hb : Below W.heap.size W W') : ∀ (ts : List TypeId) (vs : List Value) (ds : List (DataW H)) (ps : List MemPlace),
    (∀ t ∈ ts, P.readableRec t = true ∧ t < P.types.size) → DataW.TrodAll enc P W 0 (fun _ => true) true ts vs ds ps → (∀ x ∈ ps, x.block < W.heap.size) →
    ∀ sp : Nat → Bool, (∀ p ∈ ps, sp p.block = true) → DataW.TrodAll enc P W' 0 sp true ts vs ds ps
  | [], vs, ds, ps, _, h, _, sp, _ => by
    obtain ⟨rfl, rfl, rfl⟩ := trodAll_nil h
    exact trodAll_mk0
  | t :: ts, vs, ds, ps, hr, h, hlt, sp, hsp => by
    obtain ⟨v, vs', d, ds', p, q, rfl, rfl, rfl, h1, h2⟩ := trodAll_cons h
    have ht := hr t (by simp)
    refine trodAll_cons_mk ?_ (trodAll_stays hl hb ts vs' ds' q (fun u hu => hr u (by simp [hu])) h2 (fun x hx => hlt x (by simp [hx])) sp (fun x hx => hsp x (by simp [hx])))
    exact WideElems.Trod_stays hl ht.1 ht.2 h1 (fun x hx => hb.same (hlt x (by simp [hx]))) (fun x hx => hsp x (by simp [hx]))
def rowsFine (P : Program) (ts : List TypeId) : Bool := ts.all fun t => P.readableRec t && decide (t < P.types.size)
theorem law_post {f : Func} {s : ChangeSpec} {fresh handsOn again : Bool} {W W' : World} {args : Array Value} {ds gs : List (DataW H)} {before : List MemPlace} {t : TypeId}
    (hl : laidOutB P = true) (hr : rowsFine P f.params.toList = true) (hv : s.vars = [])
    (hW : DataW.Whole enc P f.params.toList s.vars false W args.toList ds gs before)
    (ho : s.fn H ds = { results := [.lit (.bool true)], args := ds }) (ht : f.resultTypes = #[t]) (hu : P.underlying t = some .bool) (hb : Below W.heap.size W W') :
    s.post enc P f false fresh handsOn again W args (.bool true) W' := by
  obtain ⟨p, q, hA, hV, rfl, hfz, hnd⟩ := hW
  have hV0 := hV
  rw [hv] at hV
  obtain ⟨rfl, rfl⟩ := trodVars_none hV
  have hW : DataW.Whole enc P f.params.toList s.vars false W args.toList ds [] (p ++ []) := ⟨p, [], hA, hV0, rfl, hfz, hnd⟩
  have hlt := hW.lt
  simp only [List.append_nil] at hlt hfz hnd
  have hrf : ∀ t ∈ f.params.toList, P.readableRec t = true ∧ t < P.types.size := by
    intro t ht
    have := List.all_eq_true.1 hr t ht
    simpa using this
  have hargs := trodAll_stays hl hb _ _ _ _ hrf hA hlt
  have hvars : ∀ sp, DataW.TrodVars enc P W' sp s.vars [] [] := by intro sp; rw [hv]; rfl
  have hres : ∀ (b : Nat) (sp : Nat → Bool) (hd : Bool), DataW.TrodAll enc P W' b sp hd f.resultTypes.toList ((Value.bool true).resultList f.resultTypes.size) [.lit (.bool true)] [] := by
    intro b sp hd
    rw [ht]
    exact trodAll_cons_mk (p := []) (p' := []) (shut_bool hu true) trodAll_mk0
  refine ⟨ds, [], p ++ [], [], p, [], hW, ?_, ?_, ?_, hb.frame _, fun _ => ⟨ok_one ht rfl (okWide_bool_mk hu _), [.lit (.bool true)] ++ ds, [], ([] ++ p) ++ [], ⟨[] ++ p, [], trodAll_append (hargs (fun _ => true) (fun _ _ => rfl)) (hres 0 (fun _ => true) true), ?_, rfl, ?_, fun h => by cases h⟩, ?_⟩⟩
  · rw [List.append_nil, ho]; exact hres _ _ _
  · rw [List.append_nil, ho]; exact hargs _ (fun x hx => by simpa using hlt x hx)
  · rw [List.append_nil, ho]; exact hvars _
  · exact hvars _
  · intro b off hp
    rw [hb.frozen (hlt (.cell b off) (by simpa using hp))]
    exact hfz b off (by simpa using hp)
  · intro x hx _
    simpa using hx

/-! ### The law's contract, out of one of this proof's own kind -/
end

/-! ### Flat: a struct's cells one by one -/
inductive LK where
  | bool
  | int (k : IntKind)
  | str
  | sl (t : TypeId)
def flatFs (rec : TypeId → Option (List LK)) (P : Program) : Nat → List Field → Option (List LK)
  | _, [] => some []
  | off, f :: fs => if f.offset = off then match rec f.type with
    | some ks => if ks.length = P.cellsOf f.type then (flatFs rec P (off + ks.length) fs).map (ks ++ ·) else none
    | none => none
    else none
def flat (P : Program) : Nat → TypeId → Option (List LK)
  | 0, _ => none
  | m + 1, t => match P.underlying t with
    | some .bool => some [.bool]
    | some (.int k) => some [.int k]
    | some .string => some [.str]
    | some (.slice _) => some [.sl t]
    | some (.struct fs) => match flatFs (flat P m) P 0 fs.toList with
      | some ks => if ks.length = P.cellsOf t then some ks else none
      | none => none
    | some (.array k e) => match flat P m e with
      | some ks => if ks.length = P.cellsOf e ∧ P.cellsOf t = k * ks.length then some (List.replicate k ks).flatten else none
      | none => none
    | _ => none
def RdK (P : Program) (G : Mem) : LK → Value → Nat → Prop
  | .bool, v, _ => ∃ b, v = Bo b
  | .int k, v, _ => ∃ m, v = .int k m ∧ (Lit.int k m).wf = true
  | .str, v, n => ∃ l : List UInt8, v = Sr l ∧ l.length ≤ 140737488351232 ∧ l.length + 1 ≤ n
  | .sl t, v, n => ∃ d, Rd P G d t [v] n
def RdL (P : Program) (G : Mem) : List LK → List Value → Nat → Prop
  | [], cs, _ => cs = []
  | k :: ks, cs, n => ∃ v cs' m r, cs = v :: cs' ∧ m + r ≤ n ∧ RdK P G k v m ∧ RdL P G ks cs' r
section
variable {P : Program} {G : Mem}
theorem rdF_mono2 {rec : TypeId → List Value → Nat → Prop} {cs : List Value} : ∀ (fs : List Field) {n m : Nat}, n ≤ m → RdF rec P cs fs n → RdF rec P cs fs m
  | [], _, _, _, _ => trivial
  | f :: fs, n, m, h, ⟨x, y, h1, h2, h3⟩ => ⟨x, y, Nat.le_trans h1 h, h2, h3⟩
theorem rd_mono : ∀ (d : Nat) (t : TypeId) (cs : List Value) {n m : Nat}, n ≤ m → Rd P G d t cs n → Rd P G d t cs m
  | 0, _, _, _, _, _, h => h
  | d + 1, t, cs, n, m, hle, h => by
    unfold Rd at h ⊢
    split at h
    · exact h
    · exact h
    · obtain ⟨l, a, b, c⟩ := h
      exact ⟨l, a, b, Nat.le_trans c hle⟩
    · rcases h with h | ⟨a, len, cap, h1, h2, h3, h4, h5, ns, h6, h7, h8⟩
      · exact .inl h
      · exact .inr ⟨a, len, cap, h1, h2, h3, h4, h5, ns, h6, Nat.le_trans h7 hle, h8⟩
    · exact ⟨h.1, rdF_mono2 _ hle h.2⟩
    · obtain ⟨h1, ns, h2, h3, h4⟩ := h
      exact ⟨h1, ns, h2, Nat.le_trans h3 hle, h4⟩
    · trivial
theorem rdL_mono : ∀ {ks : List LK} {cs : List Value} {n m : Nat}, n ≤ m → RdL P G ks cs n → RdL P G ks cs m
  | [], _, _, _, _, h => h
  | _ :: _, _, _, _, h, ⟨v, cs', a, b, h1, h2, h3, h4⟩ => ⟨v, cs', a, b, h1, Nat.le_trans h2 h, h3, h4⟩
theorem rdK_mono : ∀ {k : LK} {v : Value} {n m : Nat}, n ≤ m → RdK P G k v n → RdK P G k v m
  | .bool, _, _, _, _, h => h
  | .int _, _, _, _, _, h => h
  | .str, _, _, _, h, ⟨l, a, b, c⟩ => ⟨l, a, b, Nat.le_trans c h⟩
  | .sl t, _, _, _, h, ⟨d, hd⟩ => ⟨d, rd_mono d _ _ h hd⟩
theorem rdL_append : ∀ {k1 k2 : List LK} {c1 c2 : List Value} {m r : Nat}, RdL P G k1 c1 m → RdL P G k2 c2 r → RdL P G (k1 ++ k2) (c1 ++ c2) (m + r)
  | [], _, _, _, m, r, h, h' => by cases h; exact rdL_mono (Nat.le_add_left _ _) h'
  | k :: ks, k2, c1, c2, m, r, ⟨v, cs', a, b, h1, h2, h3, h4⟩, h' => by
    subst h1
    exact ⟨v, cs' ++ c2, a, b + r, rfl, by omega, h3, rdL_append h4 h'⟩
theorem rdF_flat {d m : Nat} (ih : ∀ (t : TypeId) (ks : List LK) (cs : List Value) (n : Nat), flat P m t = some ks → Rd P G d t cs n → RdL P G ks cs n) {cs : List Value} :
    ∀ (fs : List Field) (off : Nat) (ks : List LK) (n : Nat), flatFs (flat P m) P off fs = some ks → off + ks.length = cs.length → RdF (Rd P G d) P cs fs n → RdL P G ks (cs.drop off) n
  | [], off, ks, n, h, hl, _ => by
    cases h
    exact List.drop_eq_nil_of_le (by simp at hl; omega)
  | f :: fs, off, ks, n, h, hl, ⟨a, b, h1, h2, h3⟩ => by
    unfold flatFs at h
    split at h
    · rename_i ho
      split at h
      · rename_i k1 hk
        split at h
        · rename_i hk1
          obtain ⟨k2, h4, rfl⟩ := Option.map_eq_some_iff.1 h
          have := rdF_flat ih fs _ k2 b h4 (by simp at hl; omega) h3
          have h5 := ih _ _ _ _ hk h2
          rw [ho] at h5
          have := rdL_mono h1 (rdL_append h5 this)
          rwa [hk1, ← List.drop_drop, List.take_append_drop] at this
        · cases h
      · cases h
    · cases h
theorem rd_flat : ∀ (m d : Nat) (t : TypeId) (ks : List LK) (cs : List Value) (n : Nat), flat P m t = some ks → Rd P G d t cs n → RdL P G ks cs n
  | 0, _, _, _, _, _, h, _ => by cases h
  | _ + 1, 0, _, _, _, _, _, h => by cases h
  | m + 1, d + 1, t, ks, cs, n, h, hr => by
    have ih := fun t ks cs n => rd_flat m d t ks cs n
    have hr0 := hr
    unfold flat at h
    unfold Rd at hr
    split at h
    · rename_i hu; rw [hu] at hr; cases h
      obtain ⟨b, rfl⟩ := hr
      exact ⟨_, _, 0, 0, rfl, by omega, ⟨b, rfl⟩, rfl⟩
    · rename_i hu; rw [hu] at hr; cases h
      obtain ⟨b, rfl, hw⟩ := hr
      exact ⟨_, _, 0, 0, rfl, by omega, ⟨b, rfl, hw⟩, rfl⟩
    · rename_i hu; rw [hu] at hr; cases h
      obtain ⟨b, rfl, h1, h2⟩ := hr
      exact ⟨_, _, n, 0, rfl, by omega, ⟨b, rfl, h1, h2⟩, rfl⟩
    · rename_i hu; rw [hu] at hr; cases h
      obtain ⟨v, rfl⟩ : ∃ v, cs = [v] := by
        rcases hr with rfl | ⟨a, len, cap, rfl, _⟩
        · exact ⟨_, rfl⟩
        · exact ⟨_, rfl⟩
      exact ⟨_, _, n, 0, rfl, by omega, ⟨d + 1, hr0⟩, rfl⟩
    · rename_i fs hu; rw [hu] at hr
      split at h
      · rename_i ks' hk
        split at h
        · rename_i hl
          cases h
          obtain ⟨hc, hf⟩ := hr
          have := rdF_flat ih _ 0 _ _ hk (by omega) hf
          simpa using this
        · cases h
      · cases h
    · rename_i k e hu; rw [hu] at hr
      split at h
      · rename_i ke hk
        split at h
        · rename_i hl
          cases h
          obtain ⟨hc, ns, hn, hs, hx⟩ := hr
          have key : ∀ (j : Nat), j ≤ k → RdL P G (List.replicate j ke).flatten (cs.drop ((k - j) * P.cellsOf e)) ((ns.drop (k - j)).sum) := by
            intro j
            induction j with
            | zero =>
              intro _
              refine List.drop_eq_nil_of_le ?_
              rw [Nat.sub_zero, hc, hl.2, hl.1]
              exact Nat.le_refl _
            | succ j ihj =>
              intro hj
              have h1 := ihj (by omega)
              have hlt : k - (j + 1) < ns.length := by omega
              have h2 := ih _ _ _ _ hk (hx (k - (j + 1)) ns[k - (j + 1)] (List.getElem?_eq_getElem hlt))
              have h3 := rdL_append h2 h1
              rw [show k - j = (k - (j + 1)) + 1 by omega, Nat.succ_mul, ← List.drop_drop, List.take_append_drop] at h3
              rw [List.replicate_succ, List.flatten_cons, List.drop_eq_getElem_cons hlt, List.sum_cons]
              exact h3
          have := key k (Nat.le_refl _)
          rw [Nat.sub_self, Nat.zero_mul, List.drop_zero, List.drop_zero] at this
          exact rdL_mono hs this
        · cases h
      · cases h
    · cases h

/-! ### Slices -/
theorem list_of {α : Type} {p : Nat → α → Prop} : ∀ (n : Nat), (∀ i, i < n → ∃ x, p i x) → ∃ l : List α, l.length = n ∧ ∀ i x, l[i]? = some x → p i x
  | 0, _ => ⟨[], rfl, fun i x h => by simp at h⟩
  | n + 1, h => by
    obtain ⟨l, h1, h2⟩ := list_of n (fun i hi => h i (by omega))
    obtain ⟨x, hx⟩ := h n (by omega)
    refine ⟨l ++ [x], by simp [h1], fun i y hy => ?_⟩
    rw [List.getElem?_append] at hy
    split at hy
    · exact h2 i y hy
    · rename_i hi
      have : i = l.length := by
        have := (List.getElem?_eq_some_iff.1 hy).1
        simp at this; omega
      subst this
      simp at hy
      subst hy
      rw [h1]; exact hx
theorem sum_le_of {α : Type} {size : α → Nat} : ∀ (l : List α) (ns : List Nat), l.length = ns.length → (∀ i x, l[i]? = some x → size x ≤ ns.getD i 0) → (l.map size).sum ≤ ns.sum
  | [], _, _, _ => by simp
  | x :: l, [], h, _ => by simp at h
  | x :: l, n :: ns, h, hx => by
    have h1 := hx 0 x rfl
    have h2 := sum_le_of l ns (by simpa using h) (fun i y hy => by simpa using hx (i + 1) y (by simpa using hy))
    simp at h1 ⊢
    omega
theorem rd_slice {α : Type} {E : Elt α} {size : α → Nat} {t e : TypeId} {ks : List LK} {v : Value} {n : Nat} (h : RdK P G (.sl t) v n) (hu : P.underlying t = some (.slice e)) (hk : flat P 50 e = some ks)
    (hE : ∀ cs m, RdL P G ks cs m → ∃ x, E.R G cs x ∧ size x ≤ m) (hpos : 0 < P.cellsOf e) (hz : P.cellsOf e = E.sz) (hb : P.bytesOf e = E.bytes) :
    ∃ a cap l, v = Sl a l.length cap ∧ RS E G a cap l ∧ (l.map size).sum ≤ n ∧ cap * E.bytes ≤ 140737488351232 := by
  obtain ⟨d, h⟩ := h
  cases d with
  | zero => cases h
  | succ d =>
    unfold Rd at h
    rw [hu] at h
    rcases h with h | ⟨a, len, cap, h, h1, h2, h3, h4, ns, h5, h6, h7⟩
    · cases h
      exact ⟨none, 0, [], rfl, RS.nil' E G, by simp, by simp⟩
    · cases h
      have hx : ∀ i : Nat, i < len → ∃ x : α, ∃ es, E.R G es x ∧ size x ≤ ns.getD i 0 ∧ ∀ j v, es[j]? = some v → G a.block (a.off + i * E.sz + j) = some v := by
        intro i hi
        obtain ⟨es, he1, he2, he3⟩ := h7 i ns[i] (List.getElem?_eq_getElem (by omega))
        obtain ⟨x, hx1, hx2⟩ := hE es _ (rd_flat 50 d e ks es _ hk he3)
        refine ⟨x, es, hx1, ?_, ?_⟩
        · rw [List.getD_eq_getElem?_getD, List.getElem?_eq_getElem (by omega)]; exact hx2
        · rw [← hz]; exact he2
      obtain ⟨l, hl, hx⟩ := list_of len hx
      refine ⟨some a, cap, l, by rw [hl], ⟨by omega, ?_, h2, by simp, ?_, ?_⟩, ?_, by rw [← hb]; exact h3⟩
      · rw [hb] at h3
        have := Nat.mul_le_mul_right E.bytes (show l.length ≤ cap by omega)
        omega
      · rintro _ ⟨⟩ hc0
        exact h4 hc0 hpos
      · rintro _ ⟨⟩ i x hix
        obtain ⟨es, h8, _, h9⟩ := hx i x hix
        exact ⟨es, h8, h9⟩
      · have := sum_le_of (size := size) l ns (by omega) (fun i x hix => by obtain ⟨_, _, h, _⟩ := hx i x hix; exact h)
        omega
/-! ### Arguments -/
def aggT (P : Program) (t : TypeId) : Bool := match P.underlying t with
  | some (.struct _) => true
  | some (.array _ _) => true
  | _ => false
def RdV (P : Program) (G : Mem) (t : TypeId) (v : Value) (m : Nat) : Prop :=
  (aggT P t = true → ∃ cs : List Value, v = .agg cs.toArray ∧ ∀ ks, flat P 50 t = some ks → RdL P G ks cs m) ∧ (aggT P t = false → ∀ k, flat P 50 t = some [k] → RdK P G k v m)
theorem RdV.agg {t : TypeId} {v : Value} {m : Nat} (h : RdV P G t v m) (ks : List LK) (ha : aggT P t = true) (hk : flat P 50 t = some ks) : ∃ cs : List Value, v = .agg cs.toArray ∧ RdL P G ks cs m := by
  obtain ⟨cs, h1, h2⟩ := h.1 ha
  exact ⟨cs, h1, h2 ks hk⟩
theorem RdV.one {t : TypeId} {v : Value} {m : Nat} (h : RdV P G t v m) (k : LK) (ha : aggT P t = false) (hk : flat P 50 t = some [k]) : RdK P G k v m := h.2 ha k hk
theorem rdV_of {H : Type} {enc : TypeId × Value → H} {W : World} {base : Nat} {t : TypeId} {v : Value} {d : DataW H} {ps : List MemPlace}
    (h : DataW.Trod enc P W 0 (fun _ => true) true t v d ps) (hok : Value.okWide P W .any base t v) (hw : ∀ x ∈ DataW.weights P t d, x ≤ reachBytes) : RdV P (memOf W) t v (Rows.uptoBulk d) := by
  obtain ⟨fuel, h⟩ := h
  have hr := rd_of_trod _ _ _ _ _ h hw
  have hf := fun ks hk => rd_flat 50 _ _ ks _ _ hk hr
  unfold Value.okWide at hok
  constructor
  · intro ha
    unfold aggT at ha
    split at ha
    · rename_i hu
      rw [hu] at hok
      obtain ⟨cs, rfl, _⟩ := hok
      exact ⟨cs.toList, by simp, hf⟩
    · rename_i hu
      rw [hu] at hok
      obtain ⟨cs, rfl, _⟩ := hok
      exact ⟨cs.toList, by simp, hf⟩
    · cases ha
  · intro ha k hk
    obtain ⟨u, cs', m, r, h1, h2, h3, h4⟩ := hf _ hk
    have h4 : cs' = [] := h4
    subst h4
    have hv : v = u ∨ ∃ cs, v = .agg cs := by
      cases v <;> simp_all [Value.cells]
    rcases hv with rfl | ⟨cs, rfl⟩
    · have : m ≤ Rows.uptoBulk d := by omega
      exact (rdL_mono (ks := [k]) (cs := [v]) (n := m) this ⟨v, [], m, 0, rfl, by omega, h3, rfl⟩).elim fun a ⟨b, c, e, f1, f2, f3, f4⟩ => by
        cases f1
        exact rdK_mono (by omega) f3
    · exfalso
      unfold aggT at ha
      split at ha
      · cases ha
      · cases ha
      · rename_i h1 h2
        unfold Cell.okWide at hok
        split at hok
        · rename_i hu; exact h1 _ hu
        · rename_i hu; exact h2 _ _ hu
        · split at hok <;> first | (rename_i hu; cases hu; done) | skip
          all_goals (unfold Cell.ok at hok; split at hok <;> simp_all)
def RdA (P : Program) (G : Mem) : List TypeId → List Value → Nat → Prop
  | [], vs, _ => vs = []
  | t :: ts, vs, n => ∃ v vs' m r, vs = v :: vs' ∧ m + r ≤ n ∧ RdV P G t v m ∧ RdA P G ts vs' r
theorem rdA_of {H : Type} {enc : TypeId × Value → H} {W : World} {base : Nat} : ∀ (ts : List TypeId) (vs : List Value) (ds : List (DataW H)) (ps : List MemPlace), DataW.TrodAll enc P W 0 (fun _ => true) true ts vs ds ps →
    (∀ (j : Nat) t v, ts[j]? = some t → vs[j]? = some v → Value.okWide P W .any base t v) → (∀ x ∈ DataW.weightsEach P ts ds, x ≤ reachBytes) → RdA P (memOf W) ts vs (Rows.uptoBulkAll ds)
  | [], vs, ds, ps, h, _, _ => (trodAll_nil h).1
  | t :: ts, vs, ds, ps, h, hok, hw => by
    obtain ⟨v, vs', d, ds', p, q, rfl, rfl, rfl, h1, h2⟩ := trodAll_cons h
    simp only [DataW.weightsEach, List.mem_append] at hw
    refine ⟨v, vs', Rows.uptoBulk d, Rows.uptoBulkAll ds', rfl, by simp [Rows.uptoBulkAll], rdV_of h1 (hok 0 t v rfl rfl) (fun x hx => hw x (.inl hx)), rdA_of ts vs' ds' q h2 (fun j t v h3 h4 => hok (j + 1) t v (by simpa using h3) (by simpa using h4)) (fun x hx => hw x (.inr hx))⟩

/-! ### A law's contract -/
theorem all_le {l : List Nat} {N : Nat} (h : l.all (fun x => decide (x ≤ N)) = true) : ∀ x ∈ l, x ≤ N := fun x hx => by simpa using List.all_eq_true.1 h x hx
theorem val_list {Q : TypeId → Value → Prop} {ts : Array TypeId} {vs : Array Value} (h : ∀ (j : Nat) t v, ts[j]? = some t → vs[j]? = some v → Q t v) (j : Nat) (t : TypeId) (v : Value)
    (h1 : ts.toList[j]? = some t) (h2 : vs.toList[j]? = some v) : Q t v := h j t v (by simpa using h1) (by simpa using h2)
theorem own : ownKnob Tryz.prog.godebug = none := by kernel_rfl
theorem laidOut : laidOutB Tryz.prog = true := by kernel_rfl
end
end Go.Proofs.YtngoijkcbmchdaaGreatDoor
