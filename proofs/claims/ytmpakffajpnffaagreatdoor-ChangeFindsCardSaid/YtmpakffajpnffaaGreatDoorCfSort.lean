import Derived.Test.YtmpakffajpnffaaGreatDoorCfTy
import Derived.Test.YtmpakffajpnffaaGreatDoorCfRow
import Derived.Shelf.SlSortCmp.NoneTotal
import Derived.Shelf.Slices.In.CompactS
import Derived.Sort.EveryDepth
namespace Go.Proofs.YtmpakffajpnffaaGreatDoor
open Go.Tx Go.Proofs Go.Shelf
theorem putCells_row (vs : List Value) : ∀ (w : World) (b o : Nat), putCells w b o vs = Go.Sort.mapBlock w b fun c => c.mapIdx fun k x => if o ≤ k ∧ k < o + vs.length then vs[k - o]?.getD x else x := by
  induction vs with
  | nil =>
    intro w b o
    refine (Go.Sort.mapBlock_id w b _ fun c e fr h => ?_).symm
    apply Array.ext_getElem?
    intro k
    rw [Array.getElem?_mapIdx]
    cases c[k]? with
    | none => rfl
    | some x => simp only [List.length_nil, Option.map_some]; rw [if_neg (by omega)]
  | cons v vs ih =>
    intro w b o
    rw [putCells, ih, Go.Sort.setCell_eq, Go.Sort.mapBlock_mapBlock]
    refine Go.Sort.mapBlock_congr _ _ _ _ fun c e fr h => ?_
    apply Array.ext_getElem?
    intro k
    rw [Array.getElem?_mapIdx, Array.getElem?_mapIdx, Array.getElem?_setIfInBounds]
    by_cases hk : o = k
    · subst hk
      rw [if_pos rfl]
      by_cases hc : o < c.size
      · rw [if_pos hc, Array.getElem?_eq_getElem hc]
        simp only [Option.map_some]
        rw [if_neg (by omega), if_pos (by simp)]
        simp
      · rw [if_neg hc, Array.getElem?_eq_none (by omega)]; rfl
    · rw [if_neg hk]
      cases c[k]? with
      | none => rfl
      | some x =>
        simp only [Option.map_some, List.length_cons]
        by_cases h1 : o + 1 ≤ k ∧ k < o + 1 + vs.length
        · rw [if_pos h1, if_pos (by omega)]
          obtain ⟨m, hm⟩ : ∃ m, k - o = m + 1 := ⟨k - o - 1, by omega⟩
          rw [hm, show k - (o + 1) = m by omega]; simp
        · rw [if_neg h1, if_neg (by omega)]
theorem putRow_cells {α : Type} [Inhabited α] (enc : α → Value) (w : World) (b o : Nat) (d : List α) : Go.Sort.putRow enc w b o d.toArray = putCells w b o (d.map enc) := by
  rw [putCells_row]
  refine Go.Sort.mapBlock_congr _ _ _ _ fun c e fr h => ?_
  unfold Go.Sort.putCells
  apply Array.ext_getElem?
  intro k
  rw [Array.getElem?_mapIdx, Array.getElem?_mapIdx]
  cases c[k]? with
  | none => rfl
  | some x =>
    simp only [Option.map_some, List.size_toArray, List.length_map]
    by_cases h1 : o ≤ k ∧ k < o + d.length
    · rw [if_pos h1, if_pos h1, List.getElem?_map]
      have hl : k - o < d.length := by omega
      rw [List.getElem?_eq_getElem hl]
      simp only [Option.map_some, Option.getD_some, List.getElem!_toArray]
      rw [getElem!_pos d (k - o) hl]
    · rw [if_neg h1, if_neg h1]
theorem st_grewB {w0 w : World} {G0 G : Mem} {L : List (List Seg)} (h : St w0 G0 w G L) (os : Array Obj) : St w0 G0 (Go.Sort.grow w os) G L := by
  have hS' : St w G (Go.Sort.grow w os) G [] := ⟨⟨⟨rfl, rfl, rfl, by simp, fun k hk => Go.Sort.heap_grow_old w os hk⟩, Nat.le_refl _⟩, fun b o v hv => by
    have hc := h.mem b o v hv
    rw [Go.Sort.cell?_grow w os _ (lt_of_cell hc)]; exact hc, Mem.le_refl _, fun b o v hv => .inl hv, by simp, by simp⟩
  exact h.call hS'
theorem st_aheadN {w0 w : World} {G0 G : Mem} {L : List (List Seg)} (h : St w0 G0 w G L) (n : Nat) : St w0 G0 (Go.Sort.ahead w n) G L :=
  ⟨⟨⟨h.below.os, h.below.tape, h.below.output, h.below.size, h.below.block⟩, Nat.le_trans h.below.dr (Nat.le_add_right _ _)⟩, h.mem, h.grow, h.fresh, h.own, h.apart⟩
theorem st_rowput {w0 w : World} {G0 G : Mem} {L : List (List Seg)} {i : Nat} {r : List Seg} {b off cap : Nat} {l : List (List UInt8)} (h : St w0 G0 w G L) (hi : L[i]? = some r) (hr : TRow ES G (At b off) cap l r) (d : List (List UInt8)) (hd : d.length = l.length)
    (hw : ∀ x ∈ d, x.length ≤ 140737488351232) (n : Nat) (os : Array Obj) :
    ∃ r', St w0 G0 (Go.Sort.grow (putCells (Go.Sort.ahead w n) b off (d.map Sr)) os) G (L.set i r') ∧ TRow ES G (At b off) cap d r' := by
  obtain ⟨css, c1, c2, c3⟩ := hr.ex
  have hsz := css_sz c1 c2
  rcases c3.shape with ⟨e, _, _⟩ | ⟨b', off', spare, e, rfl, hsp⟩
  · cases e
  · cases e
    have hl : css.flatten.length = l.length := by rw [flatten_len hsz, c1]; exact Nat.mul_one _
    have hst := (st_aheadN h n).store hi 0 (d.map Sr) (by simp only [List.length_append, List.length_map]; omega)
    refine ⟨_, st_grewB hst os, TRow.made (css := d.map fun x => [Sr x]) (by simp) (fun k x hx => ?_) ?_ ?_ (by rw [hd]; exact c3.le) c3.max⟩
    · rw [List.getElem?_map, hx]
      exact ⟨[Sr x], rfl, rfl, hw x (List.mem_of_getElem? hx)⟩
    · have e2 : (d.map fun x => [Sr x]).flatten = d.map Sr := by
        clear hd hw hst
        induction d with
        | nil => rfl
        | cons x d ih => simp [ih]
      rw [e2]
      unfold splice
      simp only [List.take_zero, List.nil_append]
      rw [show d.length * ES.sz = (d.map Sr).length by simp [ES], List.take_left]
    · rw [splice_length (by simp only [List.length_append, List.length_map]; omega), List.length_append, hl, hsp]
      have := c3.le
      simp only [ES]; omega
theorem holds_row {w0 w : World} {G0 G : Mem} {L : List (List Seg)} {i : Nat} {r : List Seg} {b off cap : Nat} {l : List (List UInt8)} (h : St w0 G0 w G L) (hi : L[i]? = some r) (hr : TRow ES G (At b off) cap l r) {α : Type} [Inhabited α] (enc : α → Value) (zs : List α) (hz : zs.map enc = l.map Sr) :
    Go.Sort.Holds enc w b off zs.toArray ∧ (∀ x ∈ l, x.length ≤ 140737488351232) := by
  obtain ⟨css, c1, c2, c3⟩ := hr.ex
  have hsz := css_sz c1 c2
  refine ⟨fun j hj => ?_, fun x hx => ?_⟩
  · rcases c3.shape with ⟨e, _, _⟩ | ⟨b', off', spare, e, rfl, hsp⟩
    · cases e
    · cases e
      have hm : (Sg b off (css.flatten ++ spare)) ∈ L.flatten := by
        obtain ⟨hl, he⟩ := List.getElem?_eq_some_iff.1 hi
        exact List.mem_flatten.2 ⟨_, List.getElem_mem hl, by rw [he]; simp⟩
      obtain ⟨_, hown, _⟩ := h.own _ hm
      have hlen : zs.length = l.length := by have := congrArg List.length hz; simpa using this
      have hj' : j < l.length := by simpa [hlen] using hj
      have hx : l[j]? = some l[j] := List.getElem?_eq_getElem hj'
      obtain ⟨cs, hcs, hR, _⟩ := c2 j _ hx
      have hv : (css.flatten ++ spare)[j]? = some (Sr l[j]) := by
        have hfl := flatten_get hsz j cs 0 (Sr l[j]) hcs (by rw [hR]; rfl)
        simp only [ES, Nat.mul_one, Nat.add_zero] at hfl
        rw [List.getElem?_append_left (List.getElem?_eq_some_iff.1 hfl).1]; exact hfl
      obtain ⟨p1, p2, _⟩ := hown j _ hv
      have hzj : enc zs[j]! = Sr l[j] := by
        have hjz : j < zs.length := by omega
        have := congrArg (fun q => q[j]?) hz
        simp only [List.getElem?_map, hx, Option.map_some, List.getElem?_eq_getElem hjz, Option.some.injEq] at this
        rw [getElem!_pos zs j hjz]; exact this
      have e3 : zs.toArray[j]! = zs[j]! := by simp
      rw [e3, hzj]
      exact ⟨p1, p2⟩
  · obtain ⟨k, hk, rfl⟩ := List.mem_iff_getElem.1 hx
    obtain ⟨cs, _, _, hR⟩ := c2 k _ (List.getElem?_eq_getElem hk)
    exact hR
theorem bl_grow {W w' : World} (h : Bl W.heap.size W w') : ∃ q os', w' = Go.Sort.grow (W.drewN q) os' := by
  obtain ⟨⟨h1, h2, h3, h4, h5⟩, h6⟩ := h
  refine ⟨w'.drawn - W.drawn, w'.heap.extract W.heap.size w'.heap.size, ?_⟩
  have hd : w'.drawn = W.drawn + (w'.drawn - W.drawn) := by omega
  have hh : w'.heap = W.heap ++ w'.heap.extract W.heap.size w'.heap.size := by
    apply Array.ext_getElem?
    intro k
    by_cases hk : k < W.heap.size
    · rw [h5 k hk, Array.getElem?_append_left hk]
    · rw [Array.getElem?_append_right (by omega), Array.getElem?_extract]
      by_cases hk2 : k < w'.heap.size
      · rw [if_pos (by omega)]; congr 1; omega
      · rw [if_neg (by omega), Array.getElem?_eq_none (by omega)]
  cases W; cases w'
  unfold Go.Sort.grow World.drewN
  simp only at *
  subst h1 h2 h3
  rw [← hd, ← hh]
abbrev SS := {x : List UInt8 // x.length ≤ 140737488351232}
instance : Inhabited SS := ⟨⟨[], by decide⟩⟩
theorem cmp_lays {P : Program} {g : FuncId} {cb : Array Value} {cf : List UInt8 → List UInt8 → Int} (hc : ∀ x y : SS, Con P g (#[Sr x.1, Sr y.1] ++ cb) (fun _ _ => none) [] (fun u _ _ => u = I (cf x.1 y.1))) (b off n : Nat) (w : World) :
    CmpLays1 P g cb (fun x : SS => Sr x.1) (fun x y => cf x.1 y.1) b off n w := by
  intro m os dk _ x y
  refine (hc x y _ (fun _ _ => none) _ (St.start (by simp))).mono ?_
  rintro e w' ⟨v, G', L', rfl, hS, _, rfl⟩
  exact ⟨rfl, bl_grow hS.below⟩
def sortL (cf : List UInt8 → List UInt8 → Int) (l : List (List UInt8)) : List (List UInt8) := l.mergeSort fun x y => !decide (cf y x < 0)
theorem sortL_len (cf : List UInt8 → List UInt8 → Int) (l : List (List UInt8)) : (sortL cf l).length = l.length := List.length_mergeSort l
theorem sort_con {P : Program} {ρ : Ren} (LY : SlLaysF.n6 P ρ) (cf : List UInt8 → List UInt8 → Int) (hO : Go.Sort.SWO (ltOf cf)) (hT : ∀ x y, ltOf cf x y = false → ltOf cf y x = false → x = y) (g : FuncId) (cb : Array Value)
    (eg : ∀ args w, (callFunc g args).run P w = .ok (.enter g args) w) (hc : ∀ x y : SS, Con P g (#[Sr x.1, Sr y.1] ++ cb) (fun _ _ => none) [] (fun u _ _ => u = I (cf x.1 y.1)))
    {G : Mem} {a : Option Addr} {cap : Nat} {l : List (List UInt8)} {r : List Seg} (hr : TRow ES G a cap l r) (hsz : l.length < 4611686018427387904) :
    ConL P (ρ.f 6) #[Sl a l.length cap, .func (.func g) #[] cb] G [r] (fun u G' L' => ∃ r', u = .tuple #[] ∧ TRow ES G' a cap (sortL cf l) r' ∧ L' = [r']) := by
  intro Lr w0 G0 w hw
  by_cases h0 : l.length = 0
  · have e0 : l = [] := List.eq_nil_of_length_eq_zero h0
    subst e0
    refine (AnyF.slices_SortFunc_none { LY with } a cap (.func (.func g) #[] cb) w).mono ?_
    rintro e w' ⟨rfl, rfl⟩
    exact ⟨_, G, _, rfl, hw, Mem.le_refl _, [r], rfl, r, rfl, by simpa [sortL] using hr, rfl⟩
  · obtain ⟨b, off, rfl⟩ : ∃ b off, a = At b off := by
      obtain ⟨css, c1, c2, c3⟩ := hr.ex
      rcases c3.shape with ⟨_, e, _⟩ | ⟨b, off, _, e, _, _⟩
      · have := c3.le; omega
      · exact ⟨b, off, e⟩
    have hwf := (holds_row (i := 0) hw rfl hr Sr l rfl).2
    obtain ⟨zs, hzs⟩ : ∃ zs : List SS, zs.map (fun x => x.1) = l := ⟨l.pmap Subtype.mk hwf, by rw [List.map_pmap]; simp⟩
    have hH := (holds_row (i := 0) hw rfl hr (fun x : SS => Sr x.1) zs (by rw [← hzs, List.map_map]; rfl)).1
    have hlen : zs.length = l.length := by rw [← hzs, List.length_map]
    have hblk : b < w.heap.size := lt_of_cell (hH 0 (by simp; omega)).1
    have hcall := Any.slices_SortFunc_total LY (fun x : SS => Sr x.1) (fun _ => rfl) (fun x y => cf x.1 y.1) ⟨fun x => hO.irrefl x.1, fun x y z => hO.trans x.1 y.1 z.1, fun x y z => hO.ntrans x.1 y.1 z.1⟩ g cb b off cap zs.toArray w eg
      (cmp_lays hc b off _ w) hH hblk (by simpa [hlen] using hsz) (fun x y h1 h2 => Subtype.ext (hT x.1 y.1 h1 h2))
    rw [show zs.toArray.size = l.length by simp [hlen]] at hcall
    refine hcall.mono ?_
    rintro e w' ⟨rfl, n, os, rfl⟩
    have hmap : ((zs.mergeSort fun x y => !ltOf (fun x y : SS => cf x.1 y.1) y x).map fun x => Sr x.1) = (sortL cf l).map Sr := by
      unfold sortL
      rw [← hzs, ← List.map_mergeSort (r := fun x y : SS => !ltOf (fun x y : SS => cf x.1 y.1) y x) (fun _ _ _ _ => rfl), List.map_map]; rfl
    obtain ⟨r', hst, hr'⟩ := st_rowput (i := 0) hw rfl hr (sortL cf l) (sortL_len cf l) (fun x hx => hwf x (by unfold sortL at hx; exact List.mem_mergeSort.1 hx)) n os
    refine ⟨_, G, _, rfl, ?_, Mem.le_refl _, [r'], rfl, r', rfl, hr', rfl⟩
    unfold sortWorld
    rw [putRow_cells, hmap]
    exact hst
theorem mem_compactL {α : Type} [Inhabited α] [DecidableEq α] {zs : List α} {x : α} (h : x ∈ Lib.compact zs) : x ∈ zs := by
  unfold Lib.compact Lib.compactUpTo at h
  obtain ⟨i, hi, rfl⟩ := List.mem_map.1 h
  have hi' : i < zs.length := List.mem_range.1 (List.mem_filter.1 hi).1
  simp [getElem!_pos, hi']
theorem compact_con {P : Program} {ρ : Ren} (LY : Lays.n194 P ρ) {G : Mem} {a : Option Addr} {cap : Nat} {l : List (List UInt8)} {r : List Seg} (hr : TRow ES G a cap l r) :
    ConL P (ρ.f 194) #[Sl a l.length cap] G [r] (fun u G' L' => ∃ r', u = Sl a (Lib.compact l).length cap ∧ TRow ES G' a cap (Lib.compact l) r' ∧ L' = [r']) := by
  intro Lr w0 G0 w hw
  by_cases h0 : l.length = 0
  · have e0 : l = [] := List.eq_nil_of_length_eq_zero h0
    subst e0
    refine (calls_of_every_depth fun D => AnyS.slices_Compact_string_empty_in LY D a cap w).mono ?_
    rintro e w' ⟨rfl, rfl⟩
    exact ⟨_, G, _, rfl, hw, Mem.le_refl _, [r], rfl, r, rfl, hr, rfl⟩
  · obtain ⟨b, off, rfl⟩ : ∃ b off, a = At b off := by
      obtain ⟨css, c1, c2, c3⟩ := hr.ex
      rcases c3.shape with ⟨_, e, _⟩ | ⟨b, off, _, e, _, _⟩
      · have := c3.le; omega
      · exact ⟨b, off, e⟩
    obtain ⟨hH, hwf⟩ := holds_row (i := 0) hw rfl hr encStr l rfl
    have hle : (Lib.compact l).length ≤ l.length := by
      unfold Lib.compact Lib.compactUpTo
      rw [List.length_map]
      exact Nat.le_trans (List.length_filter_le _ _) (by simp)
    refine (calls_of_every_depth fun D => AnyS.slices_Compact_string_in LY D b off cap l w hH hr.le hr.lec).mono ?_
    rintro e w' ⟨rfl, q, rfl⟩
    obtain ⟨r', hst, hr'⟩ := st_rowput (i := 0) hw rfl hr (Lib.compact l ++ List.replicate (l.length - (Lib.compact l).length) []) (by rw [List.length_append, List.length_replicate]; omega) (fun x hx => by
      rcases List.mem_append.1 hx with h | h
      · exact hwf x (mem_compactL h)
      · rw [(List.mem_replicate.1 h).2]; simp) q #[]
    have hr2 := hr'.tk (Lib.compact l).length (by simp)
    rw [List.take_left] at hr2
    refine ⟨_, G, _, rfl, ?_, Mem.le_refl _, [r'], rfl, r', rfl, hr2, rfl⟩
    rw [putRow_cells]
    rw [Go.Sort.grow_empty] at hst
    exact hst
end Go.Proofs.YtmpakffajpnffaaGreatDoor
