import Derived.Test.YtmpakffajpnffaaGreatDoorCfPath
import Derived.Test.YtmpakffajpnffaaGreatDoorCfSort
namespace Go.Proofs.YtmpakffajpnffaaGreatDoor
open Go.Tx
set_option linter.unusedVariables false
set_option linter.unusedSimpArgs false
open Go.Tx Go.Proofs Go.Shelf
def ordP (a b : List UInt8) : Int := orI [cmpS (pathBits a) (pathBits b), cmpS a b]
theorem ordP_eq (a b : List UInt8) : ordP a b = if cmpS (pathBits a) (pathBits b) = 0 then cmpS a b else cmpS (pathBits a) (pathBits b) := by
  by_cases h : cmpS (pathBits a) (pathBits b) = 0 <;> by_cases h2 : cmpS a b = 0 <;> simp [ordP, orI, h, h2]
theorem ordP_zero {a b : List UInt8} : ordP a b = 0 ↔ a = b := by
  rw [ordP_eq]
  split
  · exact cmpS_zero
  · rename_i h
    constructor
    · intro hc; exact absurd hc h
    · rintro rfl; exact absurd (cmpS_zero.2 rfl) h
theorem ordP_lt {a b : List UInt8} : ordP a b < 0 ↔ Go.Op.bytesLess (pathBits a) (pathBits b) = true ∨ (pathBits a = pathBits b ∧ Go.Op.bytesLess a b = true) := by
  rw [ordP_eq]
  split
  · rename_i h
    rw [cmpS_lt]
    have e := cmpS_zero.1 h
    rw [e, bl_irr]; simp
  · rename_i h
    rw [cmpS_lt]
    constructor
    · exact .inl
    · rintro (h1 | ⟨h1, _⟩)
      · exact h1
      · exact absurd (cmpS_zero.2 h1) h
theorem ordP_gt {a b : List UInt8} : 0 < ordP a b ↔ ordP b a < 0 := by
  rw [ordP_eq, ordP_lt]
  split
  · rename_i h
    rw [cmpS_gt]
    have e := cmpS_zero.1 h
    rw [e, bl_irr]; simp
  · rename_i h
    rw [cmpS_gt]
    constructor
    · exact .inl
    · rintro (h1 | ⟨h1, _⟩)
      · exact h1
      · exact absurd (cmpS_zero.2 h1.symm) h
theorem ordP_trans {a b c : List UInt8} (h1 : ordP a b < 0) (h2 : ordP b c < 0) : ordP a c < 0 := by
  rw [ordP_lt] at *
  rcases h1 with h1 | ⟨e1, h1⟩ <;> rcases h2 with h2 | ⟨e2, h2⟩
  · exact .inl (bl_trans h1 h2)
  · exact .inl (e2 ▸ h1)
  · exact .inl (e1 ▸ h2)
  · exact .inr ⟨e1.trans e2, bl_trans h1 h2⟩
theorem ordP_swo : Go.Sort.SWO (ltOf ordP) where
  irrefl x := by unfold ltOf; rw [ordP_zero.2 rfl]; rfl
  trans x y z h1 h2 := by unfold ltOf at *; simp only [decide_eq_true_eq] at *; exact ordP_trans h1 h2
  ntrans x y z h1 h2 := by
    unfold ltOf at *
    simp only [decide_eq_false_iff_not] at *
    intro h3
    by_cases e : ordP x y = 0
    · have := ordP_zero.1 e; subst this; exact h2 h3
    · have h4 : ordP y x < 0 := ordP_gt.1 (by omega)
      exact h2 (ordP_trans h4 h3)
theorem ordP_total (x y : List UInt8) (h1 : ltOf ordP x y = false) (h2 : ltOf ordP y x = false) : x = y := by
  unfold ltOf at *
  simp only [decide_eq_false_iff_not] at *
  by_cases e : ordP x y = 0
  · exact ordP_zero.1 e
  · exact absurd (ordP_gt.1 (by omega)) h2
def sortedP (l : List (List UInt8)) : List (List UInt8) := Lib.compact (sortL ordP l)
def sortNames (l : List (List UInt8)) : List (List UInt8) × Int := if (l.any fun s => !pathName s) = true then ([], 3) else (sortedP l, 0)
theorem sortedP_len (l : List (List UInt8)) : (sortedP l).length ≤ l.length := by
  have h := sortL_len ordP l
  unfold sortedP
  rw [← h]
  generalize sortL ordP l = m
  unfold Lib.compact Lib.compactUpTo
  rw [List.length_map]
  exact Nat.le_trans (List.length_filter_le _ _) (by simp)
theorem mem_compact2 {m : List (List UInt8)} {x : List UInt8} (h : x ∈ m) : x ∈ Lib.compact m := by
  obtain ⟨k, hk, rfl⟩ := List.mem_iff_getElem.1 h
  have key : ∀ k, k < m.length → m.toArray[k]! ∈ Lib.compact m := by
    intro k
    induction k with
    | zero => intro hk; exact List.mem_map.2 ⟨0, List.mem_filter.2 ⟨List.mem_range.2 hk, by simp [Lib.keeps]⟩, rfl⟩
    | succ k ih =>
      intro hk
      by_cases e : m.toArray[k + 1]! = m.toArray[k]!
      · rw [e]; exact ih (by omega)
      · exact List.mem_map.2 ⟨k + 1, List.mem_filter.2 ⟨List.mem_range.2 hk, by simp only [Lib.keeps, decide_eq_true_eq]; exact .inr e⟩, rfl⟩
  have := key k hk
  rwa [getElem!_pos m.toArray k (by simpa using hk)] at this
theorem mem_sortedP {l : List (List UInt8)} {x : List UInt8} : x ∈ sortedP l ↔ x ∈ l :=
  ⟨fun h => List.mem_mergeSort.1 (mem_compactL h), fun h => mem_compact2 (List.mem_mergeSort.2 h)⟩
def sortRen : Go.Shelf.Ren := ⟨fun x => if Nat.beq x 6 then 145 else if Nat.beq x 14 then 178 else if Nat.beq x 15 then 179 else if Nat.beq x 20 then 191 else if Nat.beq x 21 then 192 else if Nat.beq x 22 then 193 else if Nat.beq x 23 then 194 else if Nat.beq x 24 then 195 else if Nat.beq x 25 then 196 else if Nat.beq x 26 then 197 else if Nat.beq x 27 then 198 else if Nat.beq x 28 then 199 else if Nat.beq x 29 then 200 else if Nat.beq x 46 then 205 else if Nat.beq x 47 then 206 else if Nat.beq x 48 then 207 else if Nat.beq x 49 then 208 else if Nat.beq x 50 then 209 else if Nat.beq x 57 then 214 else 0, fun x => if Nat.beq x 0 then 0 else if Nat.beq x 3 then 3 else if Nat.beq x 4 then 4 else if Nat.beq x 5 then 5 else if Nat.beq x 9 then 9 else if Nat.beq x 22 then 70 else if Nat.beq x 24 then 9 else if Nat.beq x 25 then 139 else if Nat.beq x 39 then 197 else if Nat.beq x 45 then 258 else if Nat.beq x 46 then 259 else if Nat.beq x 50 then 154 else if Nat.beq x 53 then 265 else if Nat.beq x 55 then 30 else if Nat.beq x 66 then 269 else if Nat.beq x 70 then 273 else if Nat.beq x 76 then 281 else if Nat.beq x 77 then 151 else 0, fun x => x⟩
theorem lay_sort : SlLaysF.n6 Tryz.prog sortRen := {
  mixed := rfl,
  f6 := ⟨Tryz.f145.name, by decide, Tryz.func145.trans (by kernel_rfl)⟩,
  f14 := ⟨Tryz.f178.name, by decide, Tryz.func178.trans (by kernel_rfl)⟩,
  f15 := Tryz.func179.trans (by kernel_rfl),
  f20 := ⟨Tryz.f191.name, by decide, Tryz.func191.trans (by kernel_rfl)⟩,
  f21 := ⟨Tryz.f192.name, by decide, Tryz.func192.trans (by kernel_rfl)⟩,
  f22 := ⟨Tryz.f193.name, by decide, Tryz.func193.trans (by kernel_rfl)⟩,
  f23 := ⟨Tryz.f194.name, by decide, Tryz.func194.trans (by kernel_rfl)⟩,
  f24 := ⟨Tryz.f195.name, by decide, Tryz.func195.trans (by kernel_rfl)⟩,
  f25 := ⟨Tryz.f196.name, by decide, Tryz.func196.trans (by kernel_rfl)⟩,
  f26 := ⟨Tryz.f197.name, by decide, Tryz.func197.trans (by kernel_rfl)⟩,
  f27 := ⟨Tryz.f198.name, by decide, Tryz.func198.trans (by kernel_rfl)⟩,
  f28 := Tryz.func199.trans (by kernel_rfl),
  f29 := Tryz.func200.trans (by kernel_rfl),
  f46 := ⟨Tryz.f205.name, by decide, Tryz.func205.trans (by kernel_rfl)⟩,
  f47 := Tryz.func206.trans (by kernel_rfl),
  f48 := Tryz.func207.trans (by kernel_rfl),
  f49 := ⟨Tryz.f208.name, by decide, Tryz.func208.trans (by kernel_rfl)⟩,
  f50 := ⟨Tryz.f209.name, by decide, Tryz.func209.trans (by kernel_rfl)⟩,
  f57 := ⟨Tryz.f214.name, by decide, Tryz.func214.trans (by kernel_rfl)⟩,
  t0 := by kernel_rfl,
  a0 := by intro w; kernel_rfl,
  z0 := by intro w; kernel_rfl,
  v0 := by intro w; kernel_rfl,
  t3 := by kernel_rfl,
  a3 := by intro w; kernel_rfl,
  z3 := by intro w; kernel_rfl,
  v3 := by intro w; kernel_rfl,
  t4 := by kernel_rfl,
  a4 := by intro w; kernel_rfl,
  z4 := by intro w; kernel_rfl,
  v4 := by intro w; kernel_rfl,
  t5 := by kernel_rfl,
  a5 := by intro w; kernel_rfl,
  z5 := by intro w; kernel_rfl,
  v5 := by intro w; kernel_rfl,
  t9 := by kernel_rfl,
  a9 := by intro w; kernel_rfl,
  z9 := by intro w; kernel_rfl,
  v9 := by intro w; kernel_rfl,
  t22 := by kernel_rfl,
  a22 := by intro w; kernel_rfl,
  z22 := by intro w; kernel_rfl,
  v22 := by intro w; kernel_rfl,
  a24 := by intro w; kernel_rfl,
  z24 := by intro w; kernel_rfl,
  t25 := by kernel_rfl,
  a25 := by intro w; kernel_rfl,
  z25 := by intro w; kernel_rfl,
  v25 := by intro w; kernel_rfl,
  t39 := by kernel_rfl,
  a39 := by intro w; kernel_rfl,
  z39 := by intro w; kernel_rfl,
  v39 := by intro w; kernel_rfl,
  t45 := by kernel_rfl,
  a45 := by intro w; kernel_rfl,
  z45 := by intro w; kernel_rfl,
  v45 := by intro w; kernel_rfl,
  t46 := by kernel_rfl,
  a46 := by intro w; kernel_rfl,
  z46 := by intro w; kernel_rfl,
  v46 := by intro w; kernel_rfl,
  t50 := by kernel_rfl,
  a50 := by intro w; kernel_rfl,
  z50 := by intro w; kernel_rfl,
  v50 := by intro w; kernel_rfl,
  t53 := by kernel_rfl,
  a53 := by intro w; kernel_rfl,
  z53 := by intro w; kernel_rfl,
  v53 := by intro w; kernel_rfl,
  t55 := by kernel_rfl,
  a55 := by intro w; kernel_rfl,
  z55 := by intro w; kernel_rfl,
  v55 := by intro w; kernel_rfl,
  t66 := by kernel_rfl,
  a66 := by intro w; kernel_rfl,
  z66 := by intro w; kernel_rfl,
  v66 := by intro w; kernel_rfl,
  t70 := by kernel_rfl,
  a70 := by intro w; kernel_rfl,
  z70 := by intro w; kernel_rfl,
  v70 := by intro w; kernel_rfl,
  t76 := by kernel_rfl,
  a76 := by intro w; kernel_rfl,
  z76 := by intro w; kernel_rfl,
  v76 := by intro w; kernel_rfl,
  t77 := by kernel_rfl,
  a77 := by intro w; kernel_rfl,
  z77 := by intro w; kernel_rfl,
  v77 := by intro w; kernel_rfl }
def compRen : Go.Shelf.Ren := ⟨fun x => if Nat.beq x 194 then 147 else 0, fun x => if Nat.beq x 0 then 0 else if Nat.beq x 3 then 3 else if Nat.beq x 4 then 4 else if Nat.beq x 9 then 9 else if Nat.beq x 31 then 70 else 0, fun x => x⟩
theorem lay_comp : Lays.n194 Tryz.prog compRen := {
  mixed := rfl,
  f194 := Tryz.func147.trans (by kernel_rfl),
  t0 := by kernel_rfl,
  a0 := by intro w; kernel_rfl,
  z0 := by intro w; kernel_rfl,
  v0 := by intro w; kernel_rfl,
  t3 := by kernel_rfl,
  a3 := by intro w; kernel_rfl,
  z3 := by intro w; kernel_rfl,
  v3 := by intro w; kernel_rfl,
  t4 := by kernel_rfl,
  a4 := by intro w; kernel_rfl,
  z4 := by intro w; kernel_rfl,
  v4 := by intro w; kernel_rfl,
  t9 := by kernel_rfl,
  a9 := by intro w; kernel_rfl,
  z9 := by intro w; kernel_rfl,
  v9 := by intro w; kernel_rfl,
  t31 := by kernel_rfl,
  a31 := by intro w; kernel_rfl,
  z31 := by intro w; kernel_rfl,
  v31 := by intro w; kernel_rfl }
theorem ordP_con (G : Mem) (a : List UInt8) (hw_a : (a).length ≤ 140737488351232) (b : List UInt8) (hw_b : (b).length ≤ 140737488351232)  : Con Tryz.prog 146 #[Sr a, Sr b] G [] (fun u G' L' => u = I (ordP a b)) := by
 refine con_of Tryz.func146 15 [(0, Sr a), (1, Sr b)] rfl (fun w0 G0 => ?_)
 refine tc_rb [0] [(0, Sr a), (1, Sr b)] (tc_seq (tc_region ?_))
 refine runL_b [0] [(0, Sr a), (1, Sr b), (5, Sr a)] ?_
 refine runL_callV 6 (Sr (pathBits a)) (pathBits_con G a hw_a) ?_
 refine runL_b [0] [(0, Sr a), (1, Sr b), (6, Sr (pathBits a)), (7, Sr b)] ?_
 refine runL_callV 8 (Sr (pathBits b)) (pathBits_con G b hw_b) ?_
 refine runL_callV 9 (I (cmpS (pathBits a) (pathBits b))) (cmpS_con G (pathBits a) (pathBits b)) ?_
 refine runL_b [0,0] [(9, I (cmpS (pathBits a) (pathBits b))), (10, Sr a), (11, Sr b)] ?_
 refine runL_callV 12 (I (cmpS a b)) (cmpS_con G a b) ?_
 refine runL_bsl 13 2 #[I (cmpS (pathBits a) (pathBits b)), I (cmpS a b)] 3 (fun b1 => ?_)
 refine runL_frz1 (b := b1) (o := 0) (cs := [I (cmpS (pathBits a) (pathBits b)), I (cmpS a b)]) 0 (fun G1 hl1 hz1 => ?_)
 have hs1 : RS EI G1 (At b1 0) 2 [cmpS (pathBits a) (pathBits b), cmpS a b] := RS.lit [[I (cmpS (pathBits a) (pathBits b))], [I (cmpS a b)]] [cmpS (pathBits a) (pathBits b), cmpS a b] ⟨⟨rfl, (by first | (first | assumption | omega | (unfold cmpS; repeat' split <;> omega)) | (dsimp only; first | assumption | omega | (unfold cmpS; repeat' split <;> omega)))⟩, ⟨⟨rfl, (by first | (first | assumption | omega | (unfold cmpS; repeat' split <;> omega)) | (dsimp only; first | assumption | omega | (unfold cmpS; repeat' split <;> omega)))⟩, trivial⟩⟩ hz1 (Nat.le_of_ble_eq_true rfl) (Nat.le_of_ble_eq_true rfl)
 refine runL_callV 14 (I (orI ([cmpS (pathBits a) (pathBits b), cmpS a b]))) (orI_con G1 (At b1 0) 2 ([cmpS (pathBits a) (pathBits b), cmpS a b]) hs1) ?_
 refine runL_b [0] [(4, I (orI ([cmpS (pathBits a) (pathBits b), cmpS a b])))] (runL_nil (tq_then (tc_ret ?_)))
 refine tq_ret [0] [I (orI ([cmpS (pathBits a) (pathBits b), cmpS a b]))] (bp_ret hl1 ?_)
 have hf_ : (ordP a b) = (orI ([cmpS (pathBits a) (pathBits b), cmpS a b])) := by
  rfl
 (try rw [hf_]); first | with_reducible rfl | (simp only [packR]; done) | rfl
theorem sortS_con {G : Mem} {a : Option Addr} {cap : Nat} {l : List (List UInt8)} {r : List Seg} (hr : TRow ES G a cap l r) (hsz : l.length < 4611686018427387904) :
    ConL Tryz.prog 145 #[Sl a l.length cap, .func (.func 146) #[] #[]] G [r] (fun u G' L' => ∃ r', u = .tuple #[] ∧ TRow ES G' a cap (sortL ordP l) r' ∧ L' = [r']) :=
  sort_con lay_sort ordP ordP_swo ordP_total 146 #[] (enters_of Tryz.func146 (by kernel_rfl) rfl) (fun x y => ordP_con (fun _ _ => none) x.1 x.2 y.1 y.2) hr hsz
theorem compactS_con {G : Mem} {a : Option Addr} {cap : Nat} {l : List (List UInt8)} {r : List Seg} (hr : TRow ES G a cap l r) :
    ConL Tryz.prog 147 #[Sl a l.length cap] G [r] (fun u G' L' => ∃ r', u = Sl a (Lib.compact l).length cap ∧ TRow ES G' a cap (Lib.compact l) r' ∧ L' = [r']) := compact_con lay_comp hr
theorem notName_con (G : Mem) (s : List UInt8) (hw_s : (s).length ≤ 140737488351232)  : Con Tryz.prog 144 #[Sr s] G [] (fun u G' L' => u = Bo (!pathName s)) := by
 refine con_of Tryz.func144 6 [(0, Sr s)] rfl (fun w0 G0 => ?_)
 refine tc_rb [0] [(0, Sr s)] (tc_seq (tc_region ?_))
 refine runL_b [0] [(3, Sr s)] ?_
 refine runL_callV 4 (Bo (pathName s)) (pathName_con G s) ?_
 refine runL_b [0,0] [(2, Bo (!(pathName s)))] (runL_nil (tq_then (tc_ret ?_)))
 refine tq_ret [0] [Bo (!(pathName s))] (bp_ret (Mem.le_refl _) ?_)
 have hf_ : (!pathName s) = (!(pathName s)) := by
  rfl
 (try rw [hf_]); first | with_reducible rfl | (simp only [packR]; done) | rfl
theorem sortNames_con (G : Mem) (a_l : Option Addr) (c_l : Nat) (l : List (List UInt8)) (h_l : RS ES G a_l c_l l)  : Con Tryz.prog 106 #[Sl a_l l.length c_l] G [] (fun u G' L' => ∃ (a1 : Option Addr) (c2 : Nat), u = .tuple #[Sl a1 (((sortNames l).1).length) c2, I ((sortNames l).2)] ∧ (RS ES G' a1 c2 ((sortNames l).1)) ∧ L' = []) := by
 refine con_of Tryz.func106 13 [(0, Sl a_l l.length c_l)] rfl (fun w0 G0 => ?_)
 refine tc_rb [0,0] [(0, Sl a_l l.length c_l)] (tc_seq (tc_seq (tc_region ?_)))
 refine runL_b [0] [(0, Sl a_l l.length c_l), (5, Sl a_l l.length c_l)] ?_
 refine runL_callV 6 (Bo (l.any (fun x0 => !pathName x0))) (sany_ES G a_l c_l l h_l 144 #[] (fun x0 => !pathName x0) (fun _ _ => by kernel_rfl) (fun x0 hx0 => notName_con G x0 hx0)) ?_
 refine runL_nil (tq_then ?_)
 refine tc_cond (l.any (fun x0 => !pathName x0)) (fun h1 => ?_) (fun h1 => ?_)
 ·
  try simp only [BB] at h1
  refine tc_rb [0,0] [(2, Sl none 0 0), (3, I 3)] (tc_ret (tq_then_ret ?_))
  have hf1 : sortNames l = ([], 3) := by
   unfold sortNames; first | (rw [if_pos (by assumption)]; done) | (rw [if_neg (by simp_all)]; rfl)
  refine tq_ret [0, 0] [Sl none 0 0, I 3] (bp_rows [] .slnil (Mem.le_refl _) ?_)
  rw [hf1]
  try dsimp only
  exact ⟨none, 0, rfl, (RS.nil' ES G), rfl⟩
 ·
  try simp only [BB] at h1
  refine tc_skip (tq_then (tc_seq (tc_region ?_)))
  refine runL_b [0] [(7, Sl a_l l.length c_l)] ?_
  refine runL_callR 8 (sclone_ES G a_l c_l l h_l) (fun v G1 L1 hl1 hp => ?_)
  obtain ⟨a1, c1, r1, rfl, hr1, rfl⟩ := hp
  refine runL_b [0] [(4, Sl a1 l.length c1)] (runL_nil (tq_then (tc_seq (tc_region ?_))))
  refine runL_b [0] [(4, Sl a1 l.length c1), (9, Sl a1 l.length c1)] ?_
  refine runL_front 0 ?_
  refine runL_callL (Ls := [r1]) (Lr := []) 10 (sortS_con hr1 (by have q_ := h_l.fit; simp only [ES] at q_; omega)) (fun v G2 L1 hl2 hp => ?_)
  obtain ⟨r2, rfl, hr2, rfl⟩ := hp
  have e1 : l.length = (sortL ordP l).length := (sortL_len ..).symm
  refine runL_b [] [(4, Sl a1 l.length c1), (9, Sl a1 l.length c1), (10, .tuple #[])] ?_
  refine runL_eq (fr' := [(4, Sl a1 ((sortL ordP l).length) c1), (9, Sl a1 ((sortL ordP l).length) c1), (10, .tuple #[])]) (L' := [r2]) (by first | rfl | simp only [e1]) (by first | rfl | simp only [e1]) ?_
  refine runL_nil (tq_then (tc_seq (tc_region ?_)))
  refine runL_b [0] [(11, Sl a1 ((sortL ordP l).length) c1)] ?_
  refine runL_front 0 ?_
  refine runL_callL (Ls := [r2]) (Lr := []) 12 (compactS_con hr2) (fun v G3 L1 hl3 hp => ?_)
  obtain ⟨r3, rfl, hr3, rfl⟩ := hp
  refine runL_b [0,0] [(2, Sl a1 ((Lib.compact (sortL ordP l)).length) c1), (3, I 0)] (runL_nil (tq_then (tc_ret ?_)))
  refine tq_frzR (E := ES) 0 hr3 (by have q1_ := sortedP_len l; unfold sortedP at q1_; have q2_ := h_l.fit; simp only [ES] at *; omega) (fun G4 hl4 hs1 => ?_)
  have hf2 : sortNames l = ((Lib.compact (sortL ordP l)), 0) := by
   unfold sortNames; first | (rw [if_pos (by assumption)]; done) | (rw [if_neg (by simp_all)]; rfl)
  refine tq_ret [0, 0] [Sl a1 ((Lib.compact (sortL ordP l)).length) c1, I 0] (bp_rows [] (.cons _ .slnil) (Mem.le_trans (Mem.le_trans (Mem.le_trans hl1 hl2) hl3) hl4) ?_)
  rw [hf2]
  try dsimp only
  exact ⟨a1, c1, rfl, hs1, rfl⟩
end Go.Proofs.YtmpakffajpnffaaGreatDoor
