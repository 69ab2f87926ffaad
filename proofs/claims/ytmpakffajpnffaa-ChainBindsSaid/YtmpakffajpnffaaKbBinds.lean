import Derived.Test.YtmpakffajpnffaaKbFork
import Derived.Test.YtmpakffajpnffaaKbClash
import Derived.Test.YtmpakffajpnffaaKbRound
namespace Go.Proofs.Ytmpakffajpnffaa
open Go.Tx
set_option linter.unusedVariables false
set_option linter.unusedSimpArgs false
open Go.RowKit
def lastDiff (l : List HHD) : Option HHD := l.reverse.find? fun p => !decide (p.x = p.y)
def hhZ : HHD := ⟨headZ, headZ⟩
def lastHH (l : List HHD) : HHD := l[l.length - 1]?.getD hhZ
theorem lastHH_get {l : List HHD} {k : Nat} {x : HHD} (hk : k = l.length - 1) (h : l[k]? = some x) : x = lastHH l := by unfold lastHH; rw [← hk, h]; rfl
def clashRes (l : List HHD) : List UInt8 × List UInt8 × Int := match lastDiff l with
  | some p => ((headSaid p.x).1, (headSaid p.y).1, 0)
  | none => ([], [], 6)
def chainClash (a b : List HeadD) : List UInt8 × List UInt8 × Int := if ¬ checkAll [a, b] = 0 then ([], [], checkAll [a, b]) else if (bothL a b).length = 0 then ([], [], 5) else if ¬ (headMark (lastHH (bothL a b)).x).1 = (headMark (lastHH (bothL a b)).y).1 then ([], [], 8) else clashRes (bothL a b)
theorem lastDiff_some {l : List HHD} {p : HHD} (h : lastDiff l = some p) : ¬ p.x = p.y ∧ ∃ l1 l2, l = l1 ++ p :: l2 ∧ ∀ q ∈ l2, q.x = q.y := by
  unfold lastDiff at h
  rw [List.find?_eq_some_iff_append] at h
  obtain ⟨h1, l3, l4, h2, h3⟩ := h
  refine ⟨by simpa using h1, l4.reverse, l3.reverse, ?_, fun q hq => ?_⟩
  · have := congrArg List.reverse h2
    rw [List.reverse_reverse] at this
    rw [this]; simp
  · have := h3 q (List.mem_reverse.1 hq)
    simpa using this
theorem lastDiff_none {l : List HHD} : lastDiff l = none ↔ ∀ p ∈ l, p.x = p.y := by
  unfold lastDiff
  rw [List.find?_eq_none]
  simp
theorem both_sorted {a b : List HeadD} (ha : ChainOk a) : (bothL a b).Pairwise fun p q => p.x.epoch ≤ q.x.epoch := by
  unfold bothL
  rw [List.pairwise_flatten]
  refine ⟨fun l hl => ?_, ?_⟩
  · obtain ⟨x, _, rfl⟩ := List.mem_map.1 hl
    rw [List.pairwise_iff_getElem]
    intro i j hi hj _
    rw [(pairs_mem.1 (List.getElem_mem hi)).1, (pairs_mem.1 (List.getElem_mem hj)).1]; exact Int.le_refl _
  · rw [List.pairwise_map, List.pairwise_iff_getElem]
    intro i j hi hj hij p hp q hq
    rw [(pairs_mem.1 hp).1, (pairs_mem.1 hq).1]
    have h1 := ha.epoch i _ (List.getElem?_eq_getElem hi)
    have h2 := ha.epoch j _ (List.getElem?_eq_getElem hj)
    omega
theorem ChainOk.le_last {l : List HeadD} (h : ChainOk l) {x : HeadD} (hx : x ∈ l) : x.epoch ≤ (lastH l).epoch ∧ (firstH l).epoch ≤ x.epoch := by
  obtain ⟨i, hi⟩ := List.getElem?_of_mem hx
  have h1 := h.epoch _ _ hi
  have h2 := h.lastE
  have := (List.getElem?_eq_some_iff.1 hi).1
  omega
theorem ChainOk.next {l : List HeadD} (h : ChainOk l) {x : HeadD} (hx : x ∈ l) (hl : x.epoch < (lastH l).epoch) : ∃ y ∈ l, y.epoch = x.epoch + 1 ∧ y.prev = markOf (headText x) := by
  obtain ⟨i, hi⟩ := List.getElem?_of_mem hx
  have h1 := h.epoch _ _ hi
  have h2 := h.lastE
  have h3 := (List.getElem?_eq_some_iff.1 hi).1
  have hy : l[i + 1]? = some (l[i + 1]'(by omega)) := List.getElem?_eq_getElem _
  have hk := h.lnk i _ _ hi hy
  refine ⟨_, List.mem_of_getElem? hy, linkB_epoch hk, ?_⟩
  unfold linkB at hk
  rw [decide_eq_true_eq] at hk
  have h0 : (headNext x (l[i + 1]'(by omega)).root (l[i + 1]'(by omega)).at_).2 = 0 := by rw [hk]
  have := (headNext_ok h0).2.2.2.1
  rw [hk] at this
  have := congrArg (fun p => p.1.prev) this
  simpa using this
theorem said_head {l : List HeadD} (h : ChainOk l) {x : HeadD} (hx : x ∈ l) : headSaid x = (headText x, 0) ∧ headMark x = (markOf (headText x), 0) := ⟨headSaid_ok (h.ok x hx), headMark_ok (h.ok x hx)⟩
theorem clash_alike {a b : List HeadD} (wa : ∀ x ∈ a, HeadW x) (wb : ∀ x ∈ b, HeadW x) (h : (chainClash a b).2.2 = 0) : alikeB (chainClash a b).1 (chainClash a b).2.1 = true := by
  unfold chainClash at h ⊢
  split at h
  · contradiction
  rename_i h1
  split at h
  · cases h
  rename_i h2
  split at h
  · cases h
  rename_i h3
  rw [if_neg h1, if_neg h2, if_neg h3]
  obtain ⟨ha, hb⟩ := check2_iff.1 (Decidable.not_not.1 h1)
  have h3 := Decidable.not_not.1 h3
  unfold clashRes at h ⊢
  cases hd : lastDiff (bothL a b) with
  | none => rw [hd] at h; cases h
  | some p =>
    simp only
    obtain ⟨hne, l1, l2, hl, hs⟩ := lastDiff_some hd
    have hp : p ∈ bothL a b := by rw [hl]; simp
    obtain ⟨px, py, pe⟩ := both_mem.1 hp
    have sx := said_head ha px; have sy := said_head hb py
    have hso := both_sorted (b := b) ha
    have hm : markOf (headText p.x) = markOf (headText p.y) := by
      by_cases hend : p.x.epoch < (lastH a).epoch ∧ p.y.epoch < (lastH b).epoch
      · obtain ⟨x', hx', ex, mx⟩ := ha.next px hend.1
        obtain ⟨y', hy', ey, my⟩ := hb.next py hend.2
        have hq : (⟨x', y'⟩ : HHD) ∈ bothL a b := both_mem.2 ⟨hx', hy', by show x'.epoch = y'.epoch; omega⟩
        have hq2 : (⟨x', y'⟩ : HHD) ∈ l2 := by
          rw [hl] at hq hso
          rcases List.mem_append.1 hq with hq | hq
          · have := (List.pairwise_append.1 hso).2.2 _ hq p (by simp)
            simp only at this; omega
          · rcases List.mem_cons.1 hq with hq | hq
            · rw [← hq] at ex; simp only at ex; omega
            · exact hq
        have := hs _ hq2
        simp only at this
        rw [← mx, ← my, this]
      · have hn : l2 = [] := by
          cases l2 with
          | nil => rfl
          | cons q l2 =>
            exfalso
            have hq : q ∈ bothL a b := by rw [hl]; simp
            obtain ⟨qx, qy, qe⟩ := both_mem.1 hq
            have b1 := ha.le_last qx; have b2 := hb.le_last qy
            rw [hl] at hso
            have hle := (List.pairwise_cons.1 (List.pairwise_append.1 hso).2.1).1 q (by simp)
            have e1 : q.x = p.x := ha.uniq qx px (by omega)
            have e2 : q.y = p.y := hb.uniq qy py (by omega)
            have := hs q (by simp)
            rw [e1, e2] at this; exact hne this
        have e : lastHH (bothL a b) = p := by
          symm
          refine lastHH_get rfl ?_
          rw [hl, hn]; simp
        rw [e, sx.2, sy.2] at h3
        exact h3
    rw [sx.1, sy.1]
    unfold alikeB
    simp only [Bool.and_eq_true, decide_eq_true_eq]
    refine ⟨?_, hm⟩
    have : ¬ headText p.x = headText p.y := fun hc => hne (headText_inj (wa _ px) (wb _ py) (ha.ok _ px) (hb.ok _ py) hc)
    simpa using this
theorem forkGo_neg : ∀ (l : List HHD), (∀ p ∈ l, 0 ≤ p.x.epoch) → (forkGo l).1 < 0 → ∀ p ∈ l, p.x = p.y
  | [], _, _, p, hp => by cases hp
  | q :: l, h, hf, p, hp => by
    unfold forkGo at hf
    split at hf
    · rename_i e
      rcases List.mem_cons.1 hp with hp | hp
      · rw [hp]; exact e
      · exact forkGo_neg l (fun p hp => h p (List.mem_cons_of_mem _ hp)) hf p hp
    · have := h q (List.mem_cons_self ..)
      simp only at hf; omega
theorem fork_err {a b : List HeadD} (h : ¬ (chainFork a b).2 = 0) : (chainFork a b).1 = 0 := by
  unfold chainFork at h ⊢
  split
  · rfl
  rename_i h1
  rw [if_neg h1] at h
  split
  · rfl
  rename_i h2
  rw [if_neg h2] at h
  exfalso; apply h
  have : ∀ l, (forkGo l).2 = 0 := by
    intro l
    induction l with
    | nil => rfl
    | cons p l ih => unfold forkGo; split
                     · exact ih
                     · rfl
  exact this _
theorem fork_lens {a b : List HeadD} (h : (chainFork a b).2 = 0) : 1 ≤ a.length ∧ 1 ≤ b.length ∧ a.length ≤ 40 ∧ b.length ≤ 40 := by
  unfold chainFork at h
  split at h
  · contradiction
  rename_i h1
  obtain ⟨ha, hb⟩ := check2_iff.1 (Decidable.not_not.1 h1)
  exact ⟨ha.len1, hb.len1, ha.len, hb.len⟩
theorem last_pair {a b : List HeadD} (ha : ChainOk a) (hb : ChainOk b) (hl : ¬ (bothL a b).length = 0) : lastHH (bothL a b) ∈ bothL a b ∧ ∀ p ∈ bothL a b, p.x.epoch ≤ (lastHH (bothL a b)).x.epoch := by
  have hk : (bothL a b)[(bothL a b).length - 1]? = some ((bothL a b)[(bothL a b).length - 1]'(by omega)) := List.getElem?_eq_getElem _
  have e := lastHH_get rfl hk
  rw [← e]
  refine ⟨List.getElem_mem _, fun p hp => ?_⟩
  obtain ⟨i, hi, rfl⟩ := List.mem_iff_getElem.1 hp
  by_cases hc : i = (bothL a b).length - 1
  · simp only [hc]; exact Int.le_refl _
  · exact List.pairwise_iff_getElem.1 (both_sorted (b := b) ha) i _ hi (by omega) (by omega)
theorem binds_chain {a b : List HeadD} (h : (chainFork a b).2 = 0) : ((chainFork a b).1 < 0 → (chainClash a b).2.2 = 6) ∧ (lastH a = lastH b → ¬ (chainFork a b).1 < 0 → (chainClash a b).2.2 = 0) := by
  unfold chainFork at h ⊢
  split at h
  · contradiction
  rename_i h1
  split at h
  · cases h
  rename_i h2
  rw [if_neg h1, if_neg h2]
  have h1 := Decidable.not_not.1 h1
  obtain ⟨ha, hb⟩ := check2_iff.1 h1
  obtain ⟨q1, q2⟩ := last_pair ha hb h2
  unfold chainClash
  rw [if_neg (by rw [Decidable.not_not]; exact h1), if_neg h2]
  constructor
  · intro hf
    have hs := forkGo_neg _ (fun p hp => (headCheck_ok (ha.ok _ (both_mem.1 hp).1)).1) hf
    rw [if_neg (by rw [Decidable.not_not, hs _ q1])]
    unfold clashRes
    rw [lastDiff_none.2 hs]
  · intro he hf
    obtain ⟨qx, qy, qe⟩ := both_mem.1 q1
    have la := List.mem_of_getElem? ha.last; have lb := List.mem_of_getElem? hb.last
    have hp : (⟨lastH a, lastH b⟩ : HHD) ∈ bothL a b := both_mem.2 ⟨la, lb, by show (lastH a).epoch = (lastH b).epoch; rw [he]⟩
    have hle := q2 _ hp
    simp only at hle
    have b1 := ha.le_last qx
    have e1 : (lastHH (bothL a b)).x = lastH a := ha.uniq qx la (by omega)
    have e2 : (lastHH (bothL a b)).y = lastH b := hb.uniq qy lb (by rw [← he]; omega)
    rw [if_neg (by rw [Decidable.not_not, e1, e2, he])]
    unfold clashRes
    cases hd : lastDiff (bothL a b) with
    | some p => rfl
    | none =>
      exfalso
      apply hf
      rw [forkGo_same _ (lastDiff_none.1 hd)]; decide
def bkAt (l : List HHD) (k : Nat) : Nat × HHD := (l.length - 1 - k, l[l.length - 1 - k]?.getD hhZ)
def bkUp (l : List HHD) (k : Nat) : List (Nat × HHD) := (List.range k).map (bkAt l)
theorem bkUp_succ (l : List HHD) (k : Nat) : bkUp l (k + 1) = bkUp l k ++ [bkAt l k] := by simp [bkUp, List.range_succ]
theorem bkUp_len (l : List HHD) (k : Nat) : (bkUp l k).length = k := by simp [bkUp]
abbrev hhV (p : HHD) : Value := .agg #[I p.x.epoch, U p.x.root, U p.x.prev, I p.x.at_, I p.y.epoch, U p.y.root, U p.y.prev, I p.y.at_]
abbrev hhC (p : HHD) : List Value := [I p.x.epoch, U p.x.root, U p.x.prev, I p.x.at_, I p.y.epoch, U p.y.root, U p.y.prev, I p.y.at_]
theorem one_cell_at {w : World} {b : Nat} {u : Value} (h : w.cell? ⟨b, 0, none⟩ = some u) : ∀ j v, ([u] : List Value)[j]? = some v → w.cell? ⟨b, 0 + j, none⟩ = some v := by
  intro j v hv
  cases j with
  | zero => simp at hv; rw [← hv]; exact h
  | succ j => simp at hv
theorem back1_in (l Bs n₀ b off cap : Nat) (zs : List HHD) (hb : b < n₀) (hB0 : Bs < n₀) (hz : zs.length ≤ 4611686018427387904) (J Jx : List (Nat × HHD) → World → Prop)
    (hY : ∀ pre x W, J pre W → pre.length < zs.length → YieldAt (FR none) 1 Try.prog l #[I (x.1 : Int), hhV x.2] W fun e W' =>
      (e = .returned (.bool true) ∧ J (pre ++ [x]) W' ∧ Below n₀ W W') ∨ (e = .returned (.bool false) ∧ Jx (pre ++ [x]) W'))
    (W : World) (hBs : W.cell? ⟨Bs, 0, none⟩ = some (Sl (At b off) zs.length cap)) (hc : ∀ k x, zs[k]? = some x → ∀ j v, (hhC x)[j]? = some v → W.cell? ⟨b, off + k * 8 + j, none⟩ = some v) (h0 : J [] W) :
    CallsIn (FR none) 2 Try.prog 48 #[.func (.yield l) #[] #[], Pt Bs 0] W fun e W' => (∃ v, e = .returned v) ∧
      ((∃ ys, ys = bkUp zs zs.length ∧ J ys W') ∨ (∃ pre, (∃ k, k ≤ zs.length ∧ pre = bkUp zs k) ∧ Jx pre W')) := by
  refine callsIn_tw Try.func48 2 19 [(0, .func (.yield l) #[] #[]), (1, Pt Bs 0)] rfl ?_
  refine tw_seq ?_
  refine tw_region ?_
  refine rw_ld (b := Bs) (o' := 0) (cs := [Sl (At b off) zs.length cap]) 4 65 0 (Sl (At b off) zs.length cap) (one_cell_at hBs) ?_
  refine rw_p 5 (I (zs.length : Int)) _ rfl ?_
  refine rw_p 6 (I (IntKind.i64.wrap ((zs.length : Int) - 1))) (I ((zs.length : Int) - 1 - ((0 : Nat) : Int))) (by rw [wrap_i64 (by omega) (by omega)]; simp) ?_
  refine rw_p 3 (I ((zs.length : Int) - 1 - ((0 : Nat) : Int))) _ rfl ?_
  refine rw_end ?_
  refine tqw_then ?_
  refine tw_block ?_
  refine tw_loop (σ := Nat) (fun k => [(0, .func (.yield l) #[] #[]), (1, Pt Bs 0), (3, I ((zs.length : Int) - 1 - (k : Int)))]) (fun k w => k ≤ zs.length ∧ J (bkUp zs k) w ∧ Below n₀ W w) (fun k => zs.length - k) 0 ⟨Nat.zero_le _, h0, Below.refl _ _⟩ ?_
  rintro k w ⟨hk, hJ, hBl⟩
  refine tw_seq ?_
  refine tw_seq ?_
  refine tw_region ?_
  refine rw_p 7 (I ((zs.length : Int) - 1 - (k : Int))) _ rfl ?_
  refine rw_p 8 (Bo (decide ((zs.length : Int) - 1 - (k : Int) ≥ 0))) (Bo (decide (k < zs.length))) (congrArg Bo (decide_eq_decide.2 (by omega))) ?_
  refine rw_end ?_
  refine tqw_then ?_
  refine tw_cond (b := decide (k < zs.length)) (fun h => ?_) (fun h => ?_)
  · have h := of_decide_eq_true h
    obtain ⟨x, hx⟩ : ∃ x, zs[zs.length - 1 - k]? = some x := ⟨_, List.getElem?_eq_getElem (by omega)⟩
    have hat : bkAt zs k = (zs.length - 1 - k, x) := by unfold bkAt; rw [hx]; rfl
    obtain ⟨j, hj⟩ : ∃ j, j = zs.length - 1 - k := ⟨_, rfl⟩
    rw [← hj] at hx hat
    have hcB : w.cell? ⟨Bs, 0, none⟩ = some (Sl (At b off) zs.length cap) := (hBl.cell (p := ⟨Bs, 0, none⟩) hB0).trans hBs
    have hcx : ∀ i v, (hhC x)[i]? = some v → w.cell? ⟨b, off + j * 8 + i, none⟩ = some v := fun i v hv => (hBl.cell (p := ⟨b, off + j * 8 + i, none⟩) hb).trans (hc j x hx i v hv)
    refine tw_skip ?_
    refine tqw_then ?_
    refine tw_seq ?_
    refine tw_block ?_
    refine tw_seq ?_
    refine tw_region ?_
    refine rw_p 11 (.func (.yield l) #[] #[]) _ rfl ?_
    refine rw_p 12 (I ((zs.length : Int) - 1 - (k : Int))) (I (j : Int)) (congrArg I (by omega)) ?_
    refine rw_ld (b := Bs) (o' := 0) (cs := [Sl (At b off) zs.length cap]) 13 65 0 (Sl (At b off) zs.length cap) (one_cell_at hcB) ?_
    refine rw_p 14 (I ((zs.length : Int) - 1 - (k : Int))) (I (j : Int)) (congrArg I (by omega)) ?_
    refine rw_idx (b := b) (off := off) (len := zs.length) (cap := cap) (ik := .i64) 15 67 8 j (by omega) ?_
    refine rw_ld (b := b) (o' := off + j * 8) (cs := hhC x) 16 67 0 (hhV x) hcx ?_
    refine rw_yield (l := l) (args := #[I (j : Int), hhV x]) 17 (hY _ (j, x) w hJ (by rw [bkUp_len]; exact h)) ?_
    rintro e w' (⟨rfl, hJ', hB'⟩ | ⟨rfl, hJ'⟩)
    · refine ⟨Bo true, rfl, ?_⟩
      refine rw_p 18 (Bo false) _ rfl ?_
      refine rw_end ?_
      refine tqw_then ?_
      refine tw_cond (b := false) (fun h => by cases h) (fun _ => ?_)
      refine tw_skip ?_
      refine tqw_then (Q := Exit.then _ _) ?_
      refine tw_region ?_
      refine rw_p 9 (I ((zs.length : Int) - 1 - (k : Int))) _ rfl ?_
      refine rw_p 10 (I (IntKind.i64.wrap ((zs.length : Int) - 1 - (k : Int) - 1))) (I ((zs.length : Int) - 1 - ((k + 1 : Nat) : Int))) (by rw [wrap_i64 (by omega) (by omega)]; exact congrArg I (by omega)) ?_
      refine rw_p 3 (I ((zs.length : Int) - 1 - ((k + 1 : Nat) : Int))) _ rfl ?_
      refine rw_end ?_
      intro a ha
      exact ⟨k + 1, ⟨h, by rw [bkUp_succ, hat]; exact hJ', hBl.trans hB'⟩, by omega, ha.sub (sub_of_map (by as_aux_lemma => kernel_rfl))⟩
    · refine ⟨Bo false, rfl, ?_⟩
      refine rw_p 18 (Bo true) _ rfl ?_
      refine rw_end ?_
      refine tqw_then ?_
      refine tw_cond (b := true) (fun _ => ?_) (fun h => by cases h)
      refine tw_ret ?_
      intro a ha
      refine ⟨ha.defers, _, results_none rfl _ _ _, ⟨_, rfl⟩, .inr ⟨_, ⟨k + 1, h, rfl⟩, ?_⟩⟩
      rw [bkUp_succ, hat]; exact hJ'
  · have h := of_decide_eq_false h
    have e : k = zs.length := by omega
    refine tw_exit ?_
    intro a ha
    refine ⟨ha.defers, _, results_none rfl _ _ _, ⟨_, rfl⟩, .inl ⟨_, rfl, ?_⟩⟩
    rw [← e]; exact hJ
theorem back_stops {w0 : World} {G0 G : Mem} {L : List (List Seg)} {Bs b off cap : Nat} {zs : List HHD} (hs : RS EHH G (At b off) cap zs) (hG : G Bs 0 = some (Sl (At b off) zs.length cap)) (hne : 0 < zs.length) (w : World) (hw : St w0 G0 w G L) :
    SeqStopsK (FR none) 2 Try.prog 48 #[Pt Bs 0] (fun x : Nat × HHD => #[I (x.1 : Int), hhV x.2]) (Below w.heap.size) (fun ys => ys = bkUp zs zs.length) (fun pre => ∃ k, k ≤ zs.length ∧ pre = bkUp zs k) zs.length w := by
  intro l J Jx W hW _ _ hY h0
  have cells : ∀ k x, zs[k]? = some x → ∀ j v, (hhC x)[j]? = some v → G b (off + k * 8 + j) = some v := by
    intro k x hx j v hv
    obtain ⟨cs, h1, h2⟩ := hs.elem _ rfl k x hx
    obtain ⟨rfl, _⟩ := h1
    exact h2 j v hv
  have hBs := hw.mem _ _ _ hG
  obtain ⟨x0, hx0⟩ : ∃ x, zs[0]? = some x := ⟨_, List.getElem?_eq_getElem hne⟩
  have hb := lt_of_cell (hw.mem _ _ _ (cells 0 x0 hx0 0 _ rfl))
  exact back1_in l Bs w.heap.size b off cap zs hb (lt_of_cell hBs) (by have := hs.fit; simp only [EHH] at this; omega) J Jx hY W ((hW.cell (p := ⟨Bs, 0, none⟩) (lt_of_cell hBs)).trans hBs)
    (fun k x hx j v hv => (hW.cell (p := ⟨b, off + k * 8 + j, none⟩) hb).trans (hw.mem _ _ _ (cells k x hx j v hv))) h0
def bkOut (pre : List (Nat × HHD)) : Option (Value × Value × Value) := match pre.getLast? with
  | some q => if q.2.x = q.2.y ∨ ¬ ∀ p ∈ pre.dropLast, p.2.x = p.2.y then none else some (I 0, Sr (headSaid q.2.y).1, Sr (headSaid q.2.x).1)
  | none => none
theorem bkOut_snoc {pre : List (Nat × HHD)} {x : Nat × HHD} (h : ∀ q ∈ pre, q.2.x = q.2.y) (hx : ¬ x.2.x = x.2.y) : bkOut (pre ++ [x]) = some (I 0, Sr (headSaid x.2.y).1, Sr (headSaid x.2.x).1) := by
  unfold bkOut
  simp only [List.getLast?_append, List.getLast?_singleton, Option.some_or, List.dropLast_concat]
  rw [if_neg]
  rintro (h1 | h1)
  · exact hx h1
  · exact h1 h
theorem bkUp_map (zs : List HHD) {k : Nat} (hk : k ≤ zs.length) : (bkUp zs k).map (fun q => q.2) = zs.reverse.take k := by
  apply List.ext_getElem
  · simp [bkUp, hk]
  · intro i h1 h2
    have h3 : i < k := by simp [bkUp] at h1; exact h1
    simp only [bkUp, List.map_map, List.getElem_map, List.getElem_range, Function.comp, bkAt, List.getElem_take, List.getElem_reverse]
    rw [List.getElem?_eq_getElem (by omega)]; rfl
theorem bk_all {zs : List HHD} (h : ∀ q ∈ bkUp zs zs.length, q.2.x = q.2.y) : lastDiff zs = none := by
  rw [lastDiff_none]
  intro p hp
  have e := bkUp_map zs (Nat.le_refl _)
  rw [List.take_of_length_le (by simp)] at e
  have : p ∈ (bkUp zs zs.length).map (fun q => q.2) := by rw [e]; exact List.mem_reverse.2 hp
  obtain ⟨q, hq, rfl⟩ := List.mem_map.1 this
  exact h q hq
theorem bk_some {zs : List HHD} {pre : List (Nat × HHD)} {v1 v2 v3 : Value} (hk : ∃ k, k ≤ zs.length ∧ pre = bkUp zs k) (h : bkOut pre = some (v1, v2, v3)) : ∃ p, lastDiff zs = some p ∧ v1 = I 0 ∧ v2 = Sr (headSaid p.y).1 ∧ v3 = Sr (headSaid p.x).1 := by
  obtain ⟨k, hk, rfl⟩ := hk
  cases k with
  | zero => simp [bkOut, bkUp] at h
  | succ k =>
    rw [bkUp_succ] at h
    unfold bkOut at h
    simp only [List.getLast?_append, List.getLast?_singleton, Option.some_or, List.dropLast_concat] at h
    split at h
    · cases h
    · rename_i hc
      simp only [not_or, Decidable.not_not] at hc
      simp only [Option.some.injEq, Prod.mk.injEq] at h
      refine ⟨(bkAt zs k).2, ?_, h.1.symm, h.2.1.symm, h.2.2.symm⟩
      have e := bkUp_map zs (k := k + 1) hk
      have e0 := bkUp_map zs (k := k) (by omega)
      unfold lastDiff
      rw [List.find?_eq_some_iff_append]
      refine ⟨by simpa using hc.1, zs.reverse.take k, zs.reverse.drop (k + 1), ?_, fun p hp => ?_⟩
      · have e2 : zs.reverse.take k ++ [(bkAt zs k).2] = zs.reverse.take (k + 1) := by rw [← e, ← e0, bkUp_succ]; simp
        rw [← List.singleton_append, ← List.append_assoc, e2, List.take_append_drop]
      · rw [← e0] at hp
        obtain ⟨q, hq, rfl⟩ := List.mem_map.1 hp
        simpa using hc.2 q hq
theorem clash_len (a b : List HeadD) : (chainClash a b).1.length ≤ 33 ∧ (chainClash a b).2.1.length ≤ 33 := by
  unfold chainClash clashRes
  split
  · simp
  split
  · simp
  split
  · simp
  cases lastDiff (bothL a b) with
  | none => simp
  | some p => exact ⟨headSaid_len _, headSaid_len _⟩
theorem binds_end {a b : List HeadD} {x y : HeadD} (h : (chainFork a b).2 = 0) (hx : a[a.length - 1]? = some x) (hy : b[b.length - 1]? = some y) (he : (((x.epoch = y.epoch ∧ x.root = y.root) ∧ x.prev = y.prev) ∧ x.at_ = y.at_) ∧ 0 ≤ (chainFork a b).1) : (chainClash a b).2.2 = 0 := by
  refine (binds_chain h).2 ?_ (by omega)
  rw [← lastH_get rfl hx, ← lastH_get rfl hy, HeadD_ne]
  exact ⟨he.1.1.1.1, he.1.1.1.2, he.1.1.2, he.1.2⟩
theorem rs_headW {G : Mem} {a : Option Addr} {c : Nat} {l : List HeadD} (h : RS EHead G a c l) : ∀ x ∈ l, HeadW x := by
  intro x hx
  obtain ⟨k, hk⟩ := List.getElem?_of_mem hx
  cases a with
  | none => have := h.nil rfl; have := (List.getElem?_eq_some_iff.1 hk).1; have := h.le; omega
  | some ad =>
    obtain ⟨cs, h1, _⟩ := h.elem _ rfl k x hk
    obtain ⟨_, w1, w2, w3, w4⟩ := h1
    unfold HeadW; omega
theorem back_con (G : Mem) (a : Option Addr) (n c : Nat) : Con Try.prog 27 #[Sl a n c] G [] (fun u G' L' => ∃ b, u = .func (.func 48) #[] #[Pt b 0] ∧ L' = [[Sg b 0 [Sl a n c]]]) := by
 refine con_of Try.func27 4 [(0, Sl a n c)] rfl (fun w0 G0 => ?_)
 refine tc_seq (tc_region ?_)
 refine runL_box 1 #[Sl a n c] 65 (fun b1 => ?_)
 refine runL_b [0] [(1, Pt b1 0)] (runL_nil (tq_then ?_))
 refine tc_rb [0,0] [(2, .func (.func 48) #[] #[Pt b1 0])] (tc_ret ?_)
 refine tq_ret [0] [.func (.func 48) #[] #[Pt b1 0]] (bp_rows [[Sg b1 0 [Sl a n c]]] (.cons_cons _ .slnil) (Mem.le_refl _) ?_)
 exact ⟨_, rfl, rfl⟩
theorem chainClash_con (G : Mem) (a_a : Option Addr) (c_a : Nat) (a : List HeadD) (h_a : RS EHead G a_a c_a a) (a_b : Option Addr) (c_b : Nat) (b : List HeadD) (h_b : RS EHead G a_b c_b b)  : Con Try.prog 8 #[Sl a_a a.length c_a, Sl a_b b.length c_b] G [] (fun u G' L' => u = .tuple #[Sr ((chainClash a b).1), Sr ((chainClash a b).2.1), I ((chainClash a b).2.2)]) := by
 refine con_ofM Try.func8 77 [(0, Sl a_a a.length c_a), (1, Sl a_b b.length c_b)] rfl (fun w0 G0 => ?_)
 refine tc_seq (tc_region ?_)
 refine runL_box 4 #[Sr ([])] 9 (fun b1 => ?_)
 refine runL_box 5 #[Sr ([])] 9 (fun b2 => ?_)
 refine runL_box 6 #[I 0] 24 (fun b3 => ?_)
 refine runL_nil (tq_then (tc_seq (tc_seq (tc_region ?_))))
 refine runL_b [0,0] [(0, Sl a_a a.length c_a), (1, Sl a_b b.length c_b), (4, Pt b1 0), (5, Pt b2 0), (6, Pt b3 0), (20, Sl a_a a.length c_a), (21, Sl a_b b.length c_b)] ?_
 refine runL_bsl 22 2 #[Sl a_a a.length c_a, Sl a_b b.length c_b] 22 (fun b4 => ?_)
 refine runL_frz1 (b := b4) (o := 0) (cs := [Sl a_a a.length c_a, Sl a_b b.length c_b]) 0 (fun G1 hl1 hz1 => ?_)
 have hs1 : RS ESlHead G1 (At b4 0) 2 [a, b] := RS.lit [[Sl a_a a.length c_a], [Sl a_b b.length c_b]] [a, b] ⟨⟨a_a, c_a, rfl, (h_a.mono hl1)⟩, ⟨⟨a_b, c_b, rfl, (h_b.mono hl1)⟩, trivial⟩⟩ hz1 (Nat.le_of_ble_eq_true rfl) (Nat.le_of_ble_eq_true rfl)
 refine runL_callV 23 (I (checkAll ([a, b]))) (checkAll_con G1 (At b4 0) 2 ([a, b]) hs1) ?_
 refine runL_b [0] [(0, Sl a_a a.length c_a), (1, Sl a_b b.length c_b), (4, Pt b1 0), (5, Pt b2 0), (6, Pt b3 0), (7, I (checkAll ([a, b])))] (runL_nil (tq_then ?_))
 refine tc_rb [0,0] [(0, Sl a_a a.length c_a), (1, Sl a_b b.length c_b), (4, Pt b1 0), (5, Pt b2 0), (6, Pt b3 0), (7, I (checkAll ([a, b]))), (25, Bo (!decide (checkAll ([a, b]) = 0)))] ?_
 refine tc_cond (!decide (checkAll ([a, b]) = 0)) (fun h1 => ?_) (fun h1 => ?_)
 ·
  try simp only [BB] at h1
  refine tc_rbs [0,9,7,5] [(4, Pt b1 0), (5, Pt b2 0), (6, Pt b3 0)] [[], [Sg b3 0 [I (checkAll ([a, b]))]], [Sg b2 0 [Sr ([])]], [Sg b1 0 [Sr ([])]]] ?_
  refine tc_ret (tq_then_ret ?_)
  refine tqm_ret [3, 2, 1] [Sr ([]), Sr ([]), I (checkAll ([a, b]))] (bp_ret hl1 ?_)
  have hf_ : (chainClash a b) = ([], [], (checkAll ([a, b]))) := by
   unfold chainClash; first | (rw [if_pos (by assumption)]; done) | (rw [if_neg (by simp_all), if_pos (by simp_all)]; done) | (rw [if_neg (by simp_all), if_neg (by simp_all), if_pos (by rw [← lastHH_get (by omega) hx1]; assumption)]; done) | (rw [if_neg (by simp_all), if_neg (by simp_all), if_neg (by rw [← lastHH_get (by omega) hx1, Decidable.not_not]; assumption)]; unfold clashRes; first | (rw [hall_]; done) | (rw [hp_]; done))
  (try rw [hf_]); first | with_reducible rfl | (simp only [packR]; done) | rfl
 ·
  try simp only [BB] at h1
  refine tc_skip (tq_then (tc_seq (tc_region ?_)))
  refine runL_b [0,0] [(4, Pt b1 0), (5, Pt b2 0), (6, Pt b3 0), (27, Sl a_a a.length c_a), (28, Sl a_b b.length c_b)] ?_
  refine runL_callR 29 (bothL_con G1 a_a c_a a (h_a.mono hl1) a_b c_b b (h_b.mono hl1) (by first | assumption | exact (check2_len (by assumption)).1 | exact (check2_len (by assumption)).2) (by first | assumption | exact (check2_len (by assumption)).1 | exact (check2_len (by assumption)).2)) (fun v G2 L1 hl2 hp => ?_)
  obtain ⟨a1, c1, r1, rfl, hr1, rfl⟩ := hp
  refine runL_b [0] [(4, Pt b1 0), (5, Pt b2 0), (6, Pt b3 0), (8, Sl a1 ((bothL a b).length) c1)] (runL_nil (tq_then (tc_seq ?_)))
  refine tc_rb [0,0,0] [(4, Pt b1 0), (5, Pt b2 0), (6, Pt b3 0), (8, Sl a1 ((bothL a b).length) c1), (32, Bo (decide (((bothL a b).length : Int) = 0)))] ?_
  refine tc_cond (decide (((bothL a b).length : Int) = 0)) (fun h2 => ?_) (fun h2 => ?_)
  ·
   try simp only [BB] at h2
   refine tc_rbs [11,9,7] [(4, Pt b1 0), (5, Pt b2 0), (6, Pt b3 0)] [r1, [], [Sg b3 0 [I 5]], [Sg b2 0 [Sr ([])]], [Sg b1 0 [Sr ([])]]] ?_
   refine tc_ret (tq_then_ret ?_)
   refine tqm_ret [4, 3, 2] [Sr ([]), Sr ([]), I 5] (bp_ret (Mem.le_trans hl1 hl2) ?_)
   have hf_ : (chainClash a b) = ([], [], 5) := by
    unfold chainClash; first | (rw [if_pos (by assumption)]; done) | (rw [if_neg (by simp_all), if_pos (by simp_all)]; done) | (rw [if_neg (by simp_all), if_neg (by simp_all), if_pos (by rw [← lastHH_get (by omega) hx1]; assumption)]; done) | (rw [if_neg (by simp_all), if_neg (by simp_all), if_neg (by rw [← lastHH_get (by omega) hx1, Decidable.not_not]; assumption)]; unfold clashRes; first | (rw [hall_]; done) | (rw [hp_]; done))
   (try rw [hf_]); first | with_reducible rfl | (simp only [packR]; done) | rfl
  ·
   try simp only [BB] at h2
   refine tc_skip (tq_then (tc_seq (tc_region ?_)))
   refine runL_b [0,0,0,0] [(4, Pt b1 0), (5, Pt b2 0), (6, Pt b3 0), (8, Sl a1 ((bothL a b).length) c1), (33, Sl a1 ((bothL a b).length) c1), (36, I (IntKind.i64.wrap (((bothL a b).length : Int) - 1)))] ?_
   have e1 : IntKind.i64.wrap (((bothL a b).length : Int) - 1) = ((bothL a b).length : Int) - 1 := IntWalk.i64_in _ (by first | omega | (have q_ := check2_len (a := a) (b := b) (by assumption); have q1_ := both_len2 q_.1 q_.2 40; rw [List.take_of_length_le q_.1] at q1_; omega))
   refine runL_eq (fr' := [(4, Pt b1 0), (5, Pt b2 0), (6, Pt b3 0), (8, Sl a1 ((bothL a b).length) c1), (33, Sl a1 ((bothL a b).length) c1), (36, I (((bothL a b).length : Int) - 1))]) (L' := [r1, [], [Sg b3 0 [I 0]], [Sg b2 0 [Sr ([])]], [Sg b1 0 [Sr ([])]]]) (by simp only [e1]) (by rfl) ?_
   clear e1
   obtain ⟨kn1, hkn1⟩ : ∃ k_ : Nat, ((bothL a b).length : Int) - 1 = (k_ : Int) := ⟨(((bothL a b).length : Int) - 1).toNat, by first | omega | (have q_ := check2_len (a := a) (b := b) (by assumption); have q1_ := both_len2 q_.1 q_.2 40; rw [List.take_of_length_le q_.1] at q1_; omega)⟩
   have e2 : ((bothL a b).length : Int) - 1 = (kn1 : Int) := hkn1
   refine runL_b [] [(4, Pt b1 0), (5, Pt b2 0), (6, Pt b3 0), (8, Sl a1 ((bothL a b).length) c1), (33, Sl a1 ((bothL a b).length) c1), (36, I (((bothL a b).length : Int) - 1))] ?_
   refine runL_eq (fr' := [(4, Pt b1 0), (5, Pt b2 0), (6, Pt b3 0), (8, Sl a1 ((bothL a b).length) c1), (33, Sl a1 ((bothL a b).length) c1), (36, I (kn1 : Int))]) (L' := [r1, [], [Sg b3 0 [I 0]], [Sg b2 0 [Sr ([])]], [Sg b1 0 [Sr ([])]]]) (by first | rfl | (simp only [e2]; done) | (simp only [e2]; rfl)) (by first | rfl | (simp only [e2]; done) | (simp only [e2]; rfl)) ?_
   refine runL_frzR (E := EHH) 0 hr1 (by have q0_ := check2_len (by assumption); have q1_ := both_len2 q0_.1 q0_.2 40; rw [List.take_of_length_le q0_.1] at q1_; simp only [EHH]; omega) (fun G3 hl3 hs2 => ?_)
   obtain ⟨b5, o1, rfl⟩ := RS.addr hs2 (k := kn1) (by first | omega | (have q_ := check2_len (a := a) (b := b) (by assumption); have q1_ := both_len2 q_.1 q_.2 40; rw [List.take_of_length_le q_.1] at q1_; omega))
   obtain ⟨x1, hx1⟩ := getX (l := bothL a b) (k := kn1) (by first | omega | (have q_ := check2_len (a := a) (b := b) (by assumption); have q1_ := both_len2 q_.1 q_.2 40; rw [List.take_of_length_le q_.1] at q1_; omega))
   obtain ⟨_, ⟨rfl, w1, w2, w3, w4, w5, w6, w7, w8⟩, hc1⟩ := RS.get hs2 hx1
   refine runL_idx (b := b5) (off := o1) (len := (bothL a b).length) (cap := c1) (ik := .i64) 37 67 8 kn1 (by first | omega | (have q_ := check2_len (a := a) (b := b) (by assumption); have q1_ := both_len2 q_.1 q_.2 40; rw [List.take_of_length_le q_.1] at q1_; omega)) ?_
   refine runL_ldG 38 67 (cs := [I x1.x.epoch, U x1.x.root, U x1.x.prev, I x1.x.at_, I x1.y.epoch, U x1.y.root, U x1.y.prev, I x1.y.at_]) 0 (.agg #[I x1.x.epoch, U x1.x.root, U x1.x.prev, I x1.x.at_, I x1.y.epoch, U x1.y.root, U x1.y.prev, I x1.y.at_]) hc1 ?_
   refine runL_box 9 #[I 0, U 0, U 0, I 0, I 0, U 0, U 0, I 0] 67 (fun b6 => ?_)
   refine runL_bs [3] [(4, Pt b1 0), (5, Pt b2 0), (6, Pt b3 0), (8, Sl (At b5 o1) ((bothL a b).length) c1), (9, Pt b6 0)] [[Sg b6 0 [I x1.x.epoch, U x1.x.root, U x1.x.prev, I x1.x.at_, I x1.y.epoch, U x1.y.root, U x1.y.prev, I x1.y.at_]], [], [], [Sg b3 0 [I 0]], [Sg b2 0 [Sr ([])]], [Sg b1 0 [Sr ([])]]] (runL_nil (tq_then (tc_seq (tc_region ?_))))
   refine runL_b [0,2] [(4, Pt b1 0), (5, Pt b2 0), (6, Pt b3 0), (8, Sl (At b5 o1) ((bothL a b).length) c1), (9, Pt b6 0), (41, .agg #[I x1.x.epoch, U x1.x.root, U x1.x.prev, I x1.x.at_])] ?_
   refine runL_callV 42 (.tuple #[U ((headMark x1.x).1), I ((headMark x1.x).2)]) (headMark_con G3 [I x1.x.epoch, U x1.x.root, U x1.x.prev, I x1.x.at_] x1.x (⟨rfl, w1, w2, w3, w4⟩)) ?_
   refine runL_b [0,0,0,0,0] [(4, Pt b1 0), (5, Pt b2 0), (6, Pt b3 0), (8, Sl (At b5 o1) ((bothL a b).length) c1), (9, Pt b6 0), (10, U ((headMark x1.x).1))] (runL_nil (tq_then (tc_seq (tc_region ?_))))
   refine runL_b [0,2] [(4, Pt b1 0), (5, Pt b2 0), (6, Pt b3 0), (8, Sl (At b5 o1) ((bothL a b).length) c1), (10, U ((headMark x1.x).1)), (47, .agg #[I x1.y.epoch, U x1.y.root, U x1.y.prev, I x1.y.at_])] ?_
   refine runL_callV 48 (.tuple #[U ((headMark x1.y).1), I ((headMark x1.y).2)]) (headMark_con G3 [I x1.y.epoch, U x1.y.root, U x1.y.prev, I x1.y.at_] x1.y (⟨rfl, w5, w6, w7, w8⟩)) ?_
   refine runL_b [0,0,0,0,0] [(4, Pt b1 0), (5, Pt b2 0), (6, Pt b3 0), (8, Sl (At b5 o1) ((bothL a b).length) c1), (10, U ((headMark x1.x).1)), (12, U ((headMark x1.y).1))] (runL_nil (tq_then (tc_seq ?_)))
   refine tc_rb [0,0,0] [(4, Pt b1 0), (5, Pt b2 0), (6, Pt b3 0), (8, Sl (At b5 o1) ((bothL a b).length) c1), (53, Bo (!decide ((headMark x1.x).1 = (headMark x1.y).1)))] ?_
   refine tc_cond (!decide ((headMark x1.x).1 = (headMark x1.y).1)) (fun h3 => ?_) (fun h3 => ?_)
   ·
    try simp only [BB] at h3
    refine tc_rbs [13,11,9] [(4, Pt b1 0), (5, Pt b2 0), (6, Pt b3 0)] [[Sg b6 0 [I x1.x.epoch, U x1.x.root, U x1.x.prev, I x1.x.at_, I x1.y.epoch, U x1.y.root, U x1.y.prev, I x1.y.at_]], [], [], [Sg b3 0 [I 8]], [Sg b2 0 [Sr ([])]], [Sg b1 0 [Sr ([])]]] ?_
    refine tc_ret (tq_then_ret ?_)
    refine tqm_ret [5, 4, 3] [Sr ([]), Sr ([]), I 8] (bp_ret (Mem.le_trans (Mem.le_trans hl1 hl2) hl3) ?_)
    have hf_ : (chainClash a b) = ([], [], 8) := by
     unfold chainClash; first | (rw [if_pos (by assumption)]; done) | (rw [if_neg (by simp_all), if_pos (by simp_all)]; done) | (rw [if_neg (by simp_all), if_neg (by simp_all), if_pos (by rw [← lastHH_get (by omega) hx1]; assumption)]; done) | (rw [if_neg (by simp_all), if_neg (by simp_all), if_neg (by rw [← lastHH_get (by omega) hx1, Decidable.not_not]; assumption)]; unfold clashRes; first | (rw [hall_]; done) | (rw [hp_]; done))
    (try rw [hf_]); first | with_reducible rfl | (simp only [packR]; done) | rfl
   ·
    try simp only [BB] at h3
    refine tc_skip (tq_then (tc_seq (tc_seq (tc_region ?_))))
    refine runL_b [0] [(4, Pt b1 0), (5, Pt b2 0), (6, Pt b3 0), (54, Sl (At b5 o1) ((bothL a b).length) c1)] ?_
    refine runL_callR 55 (back_con G3 (At b5 o1) ((bothL a b).length) c1) (fun v G4 L1 hl4 hp => ?_)
    obtain ⟨bb1, rfl, rfl⟩ := hp
    refine runL_frz1 (b := bb1) (o := 0) (cs := [Sl (At b5 o1) ((bothL a b).length) c1]) 0 (fun G5 hl5 hz2 => ?_)
    refine runL_owns' [[Sg b3 0 [I 0]], [Sg b2 0 [Sr ([])]], [Sg b1 0 [Sr ([])]]] (.cons _ (.cons _ (.cons _ (.cons _ (.cons_cons _ (.cons_cons _ (.cons_cons _ .slnil))))))) ?_
    refine runL_nil (tq_then (tc_block ?_))
    show TC _ _ _ _ _ (boxes3 b3 b2 b1 (I 0) (Sr ([])) (Sr ([])))
    refine tc_range3 (α := Nat × HHD) (gf := 48) (lb := #[Pt bb1 0]) (by kernel_rfl) rfl (by show 56 < 77; decide) (by show 57 < 77; decide) (fun _ _ => rfl) (fun x => I (x.1 : Int)) (fun x => hhV x.2) (fun ys => ys = bkUp (bothL a b) (bothL a b).length) (fun pre => ∃ k, k ≤ (bothL a b).length ∧ pre = bkUp (bothL a b) k) (bothL a b).length (fun w hw => back_stops (hs2.mono (Mem.le_trans hl4 hl5)) (hz2 0 _ rfl) (by omega) w hw) (fun pre => ∀ q ∈ pre, q.2.x = q.2.y) (by simp) bkOut (fun x => hhC x.2) (fun x b => [(4, Pt b1 0), (5, Pt b2 0), (6, Pt b3 0), (15, Pt b 0)]) ?_ ?_ ?_ ?_
    ·
     intro l_ x W_
     refine tr_region (fun h_ => by obtain ⟨_, _, h_⟩ := h_; exact h_) ?_
     refine runL_b [] [(4, Pt b1 0), (5, Pt b2 0), (6, Pt b3 0), (56, I (x.1 : Int)), (57, .agg #[I x.2.x.epoch, U x.2.x.root, U x.2.x.prev, I x.2.x.at_, I x.2.y.epoch, U x.2.y.root, U x.2.y.prev, I x.2.y.at_])] ?_
     refine runL_box 15 #[I 0, U 0, U 0, I 0, I 0, U 0, U 0, I 0] 67 (fun b7 => ?_)
     refine runL_bs [3] [(4, Pt b1 0), (5, Pt b2 0), (6, Pt b3 0), (15, Pt b7 0)] [[Sg b7 0 [I x.2.x.epoch, U x.2.x.root, U x.2.x.prev, I x.2.x.at_, I x.2.y.epoch, U x.2.y.root, U x.2.y.prev, I x.2.y.at_]]] (runL_nil ?_)
     intro a_ w_ ha_ hw_
     exact ⟨b7, ha_.sub (sub_of_map (by as_aux_lemma => kernel_rfl)), hw_⟩
    ·
     intro l_ pre_ x b W_ Gm hJ_ hle_ hcell ho1_ ho2_ ho3_
     refine tr_block ?_
     refine tr_seq ?_
     refine tr_region (fun h_ => by obtain ⟨_, _, h_⟩ := h_; exact h_) ?_
     refine runL_b [0] [(4, Pt b1 0), (5, Pt b2 0), (6, Pt b3 0), (15, Pt b 0), (58, Pt b 0)] ?_
     refine runL_ldG (o' := 0) 59 31 (cs := [I x.2.x.epoch, U x.2.x.root, U x.2.x.prev, I x.2.x.at_, I x.2.y.epoch, U x.2.y.root, U x.2.y.prev, I x.2.y.at_]) 0 (.agg #[I x.2.x.epoch, U x.2.x.root, U x.2.x.prev, I x.2.x.at_]) hcell ?_
     refine runL_b [0] [(4, Pt b1 0), (5, Pt b2 0), (6, Pt b3 0), (15, Pt b 0), (59, .agg #[I x.2.x.epoch, U x.2.x.root, U x.2.x.prev, I x.2.x.at_]), (60, Pt b 4)] ?_
     refine runL_ldG (o' := 0) 61 31 (cs := [I x.2.x.epoch, U x.2.x.root, U x.2.x.prev, I x.2.x.at_, I x.2.y.epoch, U x.2.y.root, U x.2.y.prev, I x.2.y.at_]) 4 (.agg #[I x.2.y.epoch, U x.2.y.root, U x.2.y.prev, I x.2.y.at_]) hcell ?_
     refine runL_eqv 62 (Bo (!(decide (x.2.x.epoch = x.2.y.epoch) && (decide (x.2.x.root = x.2.y.root) && (decide (x.2.x.prev = x.2.y.prev) && (decide (x.2.x.at_ = x.2.y.at_) && true)))))) (Bo (!(decide (x.2.x.epoch = x.2.y.epoch) && decide (x.2.x.root = x.2.y.root) && decide (x.2.x.prev = x.2.y.prev) && decide (x.2.x.at_ = x.2.y.at_)))) (by simp [B_toList, Bool.and_assoc]) ?_
     refine runL_nil ?_
     refine tqr_then ?_
     refine tr_cond (b := !(decide (x.2.x.epoch = x.2.y.epoch) && decide (x.2.x.root = x.2.y.root) && decide (x.2.x.prev = x.2.y.prev) && decide (x.2.x.at_ = x.2.y.at_))) (by kernel_rfl) (fun h4 => ?_) (fun h4 => ?_)
     ·
      try simp only [BB] at h4
      refine tr_seq ?_
      refine tr_region (fun h_ => by obtain ⟨_, _, h_⟩ := h_; exact h_) ?_
      refine runL_b [0] [(4, Pt b1 0), (5, Pt b2 0), (6, Pt b3 0), (15, Pt b 0), (64, Pt b 0)] ?_
      refine runL_ldG (o' := 0) 65 31 (cs := [I x.2.x.epoch, U x.2.x.root, U x.2.x.prev, I x.2.x.at_, I x.2.y.epoch, U x.2.y.root, U x.2.y.prev, I x.2.y.at_]) 0 (.agg #[I x.2.x.epoch, U x.2.x.root, U x.2.x.prev, I x.2.x.at_]) hcell ?_
      refine runL_callV 66 (.tuple #[Sr ((headSaid x.2.x).1), I ((headSaid x.2.x).2)]) (headSaid_con x.2.x Gm) ?_
      refine runL_b [0,0,0,0,0] [(4, Pt b1 0), (5, Pt b2 0), (6, Pt b3 0), (15, Pt b 0), (16, Sr ((headSaid x.2.x).1))] (runL_nil ?_)
      refine tqr_then ?_
      refine tr_seq ?_
      refine tr_region (fun h_ => by obtain ⟨_, _, h_⟩ := h_; exact h_) ?_
      refine runL_b [0] [(4, Pt b1 0), (5, Pt b2 0), (6, Pt b3 0), (16, Sr ((headSaid x.2.x).1)), (70, Pt b 4)] ?_
      refine runL_ldG (o' := 0) 71 31 (cs := [I x.2.x.epoch, U x.2.x.root, U x.2.x.prev, I x.2.x.at_, I x.2.y.epoch, U x.2.y.root, U x.2.y.prev, I x.2.y.at_]) 4 (.agg #[I x.2.y.epoch, U x.2.y.root, U x.2.y.prev, I x.2.y.at_]) hcell ?_
      refine runL_callV 72 (.tuple #[Sr ((headSaid x.2.y).1), I ((headSaid x.2.y).2)]) (headSaid_con x.2.y Gm) ?_
      refine runL_b [0,0,0,0,0] [(4, Pt b1 0), (5, Pt b2 0), (6, Pt b3 0), (16, Sr ((headSaid x.2.x).1)), (18, Sr ((headSaid x.2.y).1))] (runL_nil ?_)
      refine tqr_then ?_
      refine tr_seq ?_
      refine tr_region (fun h_ => by obtain ⟨_, _, h_⟩ := h_; exact h_) ?_
      refine runL_b [0,0] [(4, Pt b1 0), (5, Pt b2 0), (6, Pt b3 0), (75, Sr ((headSaid x.2.x).1)), (76, Sr ((headSaid x.2.y).1))] ?_
      refine runL_stOld b1 (Sr ((headSaid x.2.x).1)) ho3_ ?_
      refine runL_stOld b2 (Sr ((headSaid x.2.y).1)) (ho2_.set _ _) ?_
      refine runL_stOld b3 (I 0) ((ho1_.set _ _).set _ _) ?_
      refine runL_nil ?_
      refine tqr_then ?_
      refine tr_ret ?_
      refine tq_block_ret ?_
      intro a_ w_ ha_ hw_
      exact ⟨_, _, _, bkOut_snoc hJ_ (by rw [HeadD_ne]; simp_all), _, _, hw_⟩
     ·
      try simp only [BB] at h4
      refine tr_skip ?_
      refine tq_block ?_
      intro a_ w_ ha_ hw_
      exact ⟨fun q_ hq_ => (List.mem_append.1 hq_).elim (hJ_ q_) (fun h_ => by rw [List.mem_singleton.1 h_, HeadD_ne]; simp_all), _, _, hw_⟩
    ·
     rintro D_ xs_ rfl hJ_
     have hall_ := bk_all hJ_
     show TQ _ _ _ _ _ [[Ob D_ (.deferred (some []))], [Sg b3 0 [I 0]], [Sg b2 0 [Sr ([])]], [Sg b1 0 [Sr ([])]]]
     refine tq_block (tq_then ?_)
     refine tc_rbs [9,7,5] [(4, Pt b1 0), (5, Pt b2 0), (6, Pt b3 0)] [[Ob D_ (.deferred (some []))], [Sg b3 0 [I 6]], [Sg b2 0 [Sr ([])]], [Sg b1 0 [Sr ([])]]] ?_
     refine tc_ret ?_
     refine tqd_ret [3, 2, 1] [Sr ([]), Sr ([]), I 6] (bp_ret (Mem.le_trans (Mem.le_trans (Mem.le_trans (Mem.le_trans hl1 hl2) hl3) hl4) hl5) ?_)
     have hf_ : (chainClash a b) = ([], [], 6) := by
      unfold chainClash; first | (rw [if_pos (by assumption)]; done) | (rw [if_neg (by simp_all), if_pos (by simp_all)]; done) | (rw [if_neg (by simp_all), if_neg (by simp_all), if_pos (by rw [← lastHH_get (by omega) hx1]; assumption)]; done) | (rw [if_neg (by simp_all), if_neg (by simp_all), if_neg (by rw [← lastHH_get (by omega) hx1, Decidable.not_not]; assumption)]; unfold clashRes; first | (rw [hall_]; done) | (rw [hp_]; done))
     (try rw [hf_]); first | with_reducible rfl | (simp only [packR]; done) | rfl
    ·
     intro D_ pre_ v1_ v2_ v3_ hSp_ ho_
     obtain ⟨p_, hp_, rfl, rfl, rfl⟩ := bk_some hSp_ ho_
     show TQ _ _ _ _ _ [[Ob D_ (.deferred (some []))], [Sg b3 0 [I 0]], [Sg b2 0 [Sr ((headSaid p_.y).1)]], [Sg b1 0 [Sr ((headSaid p_.x).1)]]]
     refine tq_block_ret (tq_then_ret ?_)
     refine tqd_ret [3, 2, 1] [Sr ((headSaid p_.x).1), Sr ((headSaid p_.y).1), I 0] (bp_ret (Mem.le_trans (Mem.le_trans (Mem.le_trans (Mem.le_trans hl1 hl2) hl3) hl4) hl5) ?_)
     have hf_ : (chainClash a b) = ((headSaid p_.x).1, (headSaid p_.y).1, 0) := by
      unfold chainClash; first | (rw [if_pos (by assumption)]; done) | (rw [if_neg (by simp_all), if_pos (by simp_all)]; done) | (rw [if_neg (by simp_all), if_neg (by simp_all), if_pos (by rw [← lastHH_get (by omega) hx1]; assumption)]; done) | (rw [if_neg (by simp_all), if_neg (by simp_all), if_neg (by rw [← lastHH_get (by omega) hx1, Decidable.not_not]; assumption)]; unfold clashRes; first | (rw [hall_]; done) | (rw [hp_]; done))
     (try rw [hf_]); first | with_reducible rfl | (simp only [packR]; done) | rfl
theorem chainBinds_con (G : Mem) (a_a : Option Addr) (c_a : Nat) (a : List HeadD) (h_a : RS EHead G a_a c_a a) (a_b : Option Addr) (c_b : Nat) (b : List HeadD) (h_b : RS EHead G a_b c_b b) (hf_a : a.length * 32 ≤ 140737488351232) (hf_b : b.length * 32 ≤ 140737488351232) : Con Try.prog 3 #[Sl a_a a.length c_a, Sl a_b b.length c_b] G [] (fun u G' L' => u = Bo true) := by
 refine con_of Try.func3 66 [(0, Sl a_a a.length c_a), (1, Sl a_b b.length c_b)] rfl (fun w0 G0 => ?_)
 refine tc_rb [0] [(0, Sl a_a a.length c_a), (1, Sl a_b b.length c_b)] (tc_seq (tc_seq (tc_region ?_)))
 refine runL_callV 12 (Bo true) (chains_con G) ?_
 refine runL_b [0] [(0, Sl a_a a.length c_a), (1, Sl a_b b.length c_b), (13, Bo false)] (runL_nil (tq_then ?_))
 refine tc_cond_false ?_
 refine tc_skip (tq_then (tc_seq (tc_region ?_)))
 refine runL_b [0,0] [(0, Sl a_a a.length c_a), (1, Sl a_b b.length c_b), (15, Sl a_a a.length c_a), (16, Sl a_b b.length c_b)] ?_
 refine runL_callV 17 (.tuple #[I ((chainFork a b).1), I ((chainFork a b).2)]) (chainFork_con G a_a c_a a h_a a_b c_b b h_b) ?_
 refine runL_b [0,0,0,0,0] [(0, Sl a_a a.length c_a), (1, Sl a_b b.length c_b), (5, I ((chainFork a b).1)), (6, I ((chainFork a b).2))] (runL_nil (tq_then (tc_seq ?_)))
 refine tc_rb [0,0] [(0, Sl a_a a.length c_a), (1, Sl a_b b.length c_b), (5, I ((chainFork a b).1)), (21, Bo (!decide ((chainFork a b).2 = 0)))] ?_
 refine tc_cond (!decide ((chainFork a b).2 = 0)) (fun h1 => ?_) (fun h1 => ?_)
 ·
  try simp only [BB] at h1
  refine tc_rb [0,0,0] [(4, Bo (decide ((chainFork a b).1 = 0)))] (tc_ret (tq_then_ret ?_))
  refine tq_ret [0] [Bo (decide ((chainFork a b).1 = 0))] (bp_ret (Mem.le_refl _) ?_)
  have hf_ : (decide ((chainFork a b).1 = 0)) = true := by
   first | (rw [fork_err (by assumption)]; rfl) | (have q1_ := @binds_chain a b (by assumption); first | (have q2_ := binds_end (by assumption) hx1 hx2 (by assumption); first | exact absurd q2_ (by assumption) | (rw [q2_]; rfl) | (simp_all; done)) | (rw [Bool.or_eq_true, decide_eq_true_eq, decide_eq_true_eq]; rcases Decidable.em ((chainFork a b).1 < 0) with c_ | c_; exact .inr (q1_.1 c_); exact .inl (by omega)) | (rcases Decidable.em ((chainFork a b).1 < 0) with c_ | c_; exact q1_.1 c_; omega) | (have q0_ := @clash_alike a b (rs_headW (by assumption)) (rs_headW (by assumption)); have q2_ := q0_ (by simp_all); unfold alikeB at q2_; simp_all; done) | (have q0_ := @clash_alike a b (rs_headW (by assumption)) (rs_headW (by assumption)); simp_all; done))
  exact congrArg Bo hf_
 ·
  try simp only [BB] at h1
  refine tc_skip (tq_then (tc_seq (tc_region ?_)))
  refine runL_b [0,0] [(0, Sl a_a a.length c_a), (1, Sl a_b b.length c_b), (5, I ((chainFork a b).1)), (25, Sl a_a a.length c_a), (26, Sl a_b b.length c_b)] ?_
  refine runL_callV 27 (.tuple #[Sr ((chainClash a b).1), Sr ((chainClash a b).2.1), I ((chainClash a b).2.2)]) (chainClash_con G a_a c_a a h_a a_b c_b b h_b) ?_
  refine runL_b [0,0,0,0,0,0,0] [(0, Sl a_a a.length c_a), (1, Sl a_b b.length c_b), (5, I ((chainFork a b).1)), (7, Sr ((chainClash a b).1)), (8, Sr ((chainClash a b).2.1)), (9, I ((chainClash a b).2.2))] (runL_nil (tq_then (tc_seq ?_)))
  have e1 : IntKind.i64.wrap ((a.length : Int) - 1) = ((a.length - 1 : Nat) : Int) := (IntWalk.i64_in _ (by first | omega | (have q_ := fork_lens (a := a) (b := b) (by assumption); omega))).trans (show (a.length : Int) - 1 = ((a.length - 1 : Nat) : Int) by have q_ := fork_lens (a := a) (b := b) (by assumption); omega)
  obtain ⟨b1, o1, rfl⟩ := RS.addr h_a (k := a.length - 1) (by first | omega | (have q_ := fork_lens (a := a) (b := b) (by assumption); omega))
  obtain ⟨x1, hx1⟩ := getX (l := a) (k := a.length - 1) (by first | omega | (have q_ := fork_lens (a := a) (b := b) (by assumption); omega))
  obtain ⟨_, ⟨rfl, w1, w2, w3, w4⟩, hc1⟩ := RS.get h_a hx1
  have e2 : IntKind.i64.wrap ((b.length : Int) - 1) = ((b.length - 1 : Nat) : Int) := (IntWalk.i64_in _ (by first | omega | (have q_ := fork_lens (a := a) (b := b) (by assumption); omega))).trans (show (b.length : Int) - 1 = ((b.length - 1 : Nat) : Int) by have q_ := fork_lens (a := a) (b := b) (by assumption); omega)
  obtain ⟨b2, o2, rfl⟩ := RS.addr h_b (k := b.length - 1) (by first | omega | (have q_ := fork_lens (a := a) (b := b) (by assumption); omega))
  obtain ⟨x2, hx2⟩ := getX (l := b) (k := b.length - 1) (by first | omega | (have q_ := fork_lens (a := a) (b := b) (by assumption); omega))
  obtain ⟨_, ⟨rfl, w5, w6, w7, w8⟩, hc2⟩ := RS.get h_b hx2
  refine tc_draw [12, 13, 14, 15] ?_
  refine dr_V [(0, Sl (At b1 o1) a.length c_a), (1, Sl (At b1 o1) a.length c_a), (2, I (a.length : Int)), (3, I ((a.length - 1 : Nat) : Int)), (4, Pt b1 (o1 + (a.length - 1) * 4)), (5, .agg #[I x1.epoch, U x1.root, U x1.prev, I x1.at_]), (6, Sl (At b2 o2) b.length c_b), (7, Sl (At b2 o2) b.length c_b), (8, I (b.length : Int)), (9, I ((b.length - 1 : Nat) : Int)), (10, Pt b2 (o2 + (b.length - 1) * 4)), (11, .agg #[I x2.epoch, U x2.root, U x2.prev, I x2.at_])] ?_
  refine dr_mid [] [(0,0), (1,0), (2,0), (6,0), (7,0), (8,0)] [3, 4, 5, 9, 10, 11] [12, 13] (List.forall_mem_cons.2 ⟨?_, (List.forall_mem_cons.2 ⟨?_, (List.forall_mem_cons.2 ⟨?_, (List.forall_mem_cons.2 ⟨?_, (List.forall_mem_cons.2 ⟨?_, (List.forall_mem_cons.2 ⟨?_, List.forall_mem_nil _⟩)⟩)⟩)⟩)⟩)⟩) (List.forall_mem_cons.2 ⟨?_, (List.forall_mem_cons.2 ⟨?_, List.forall_mem_nil _⟩)⟩)
  ·
   refine stab_of 3 34 (I ((a.length - 1 : Nat) : Int)) [(33, I (a.length : Int))] (fun X => ?_)
   exact runL_p1 34 (I (IntKind.i64.wrap ((a.length : Int) - 1))) (I ((a.length - 1 : Nat) : Int)) (by simp only [e1]) stab_end
  ·
   refine stab_of 4 35 (Pt b1 (o1 + (a.length - 1) * 4)) [(31, Sl (At b1 o1) a.length c_a), (34, I ((a.length - 1 : Nat) : Int))] (fun X => ?_)
   exact runL_idx (b := b1) (off := o1) (len := a.length) (cap := c_a) (ik := .i64) 35 31 4 (a.length - 1) (by first | omega | (have q_ := fork_lens (a := a) (b := b) (by assumption); omega)) stab_end
  ·
   refine stab_of 5 36 (.agg #[I x1.epoch, U x1.root, U x1.prev, I x1.at_]) [(35, Pt b1 (o1 + (a.length - 1) * 4))] (fun X => ?_)
   exact runL_ldG 36 31 (cs := [I x1.epoch, U x1.root, U x1.prev, I x1.at_]) 0 (.agg #[I x1.epoch, U x1.root, U x1.prev, I x1.at_]) hc1 stab_end
  ·
   refine stab_of 9 40 (I ((b.length - 1 : Nat) : Int)) [(39, I (b.length : Int))] (fun X => ?_)
   exact runL_p1 40 (I (IntKind.i64.wrap ((b.length : Int) - 1))) (I ((b.length - 1 : Nat) : Int)) (by simp only [e2]) stab_end
  ·
   refine stab_of 10 41 (Pt b2 (o2 + (b.length - 1) * 4)) [(37, Sl (At b2 o2) b.length c_b), (40, I ((b.length - 1 : Nat) : Int))] (fun X => ?_)
   exact runL_idx (b := b2) (off := o2) (len := b.length) (cap := c_b) (ik := .i64) 41 31 4 (b.length - 1) (by first | omega | (have q_ := fork_lens (a := a) (b := b) (by assumption); omega)) stab_end
  ·
   refine stab_of 11 42 (.agg #[I x2.epoch, U x2.root, U x2.prev, I x2.at_]) [(41, Pt b2 (o2 + (b.length - 1) * 4))] (fun X => ?_)
   exact runL_ldG 42 31 (cs := [I x2.epoch, U x2.root, U x2.prev, I x2.at_]) 0 (.agg #[I x2.epoch, U x2.root, U x2.prev, I x2.at_]) hc2 stab_end
  ·
   refine act_of 12 [] (fun X => ?_)
   refine runL_box 10 #[I 0, U 0, U 0, I 0] 31 (fun b3 => ?_)
   have e3 : IntKind.i64.wrap ((a.length : Int) - 1) = ((a.length - 1 : Nat) : Int) := (IntWalk.i64_in _ (by first | omega | (have q_ := fork_lens (a := a) (b := b) (by assumption); omega))).trans (show (a.length : Int) - 1 = ((a.length - 1 : Nat) : Int) by have q_ := fork_lens (a := a) (b := b) (by assumption); omega)
   have e4 : IntKind.i64.wrap ((b.length : Int) - 1) = ((b.length - 1 : Nat) : Int) := (IntWalk.i64_in _ (by first | omega | (have q_ := fork_lens (a := a) (b := b) (by assumption); omega))).trans (show (b.length : Int) - 1 = ((b.length - 1 : Nat) : Int) by have q_ := fork_lens (a := a) (b := b) (by assumption); omega)
   refine act_end (V' := [(0, Sl (At b1 o1) a.length c_a), (1, Sl (At b1 o1) a.length c_a), (2, I (a.length : Int)), (3, I ((a.length - 1 : Nat) : Int)), (4, Pt b1 (o1 + (a.length - 1) * 4)), (5, .agg #[I x1.epoch, U x1.root, U x1.prev, I x1.at_]), (6, Sl (At b2 o2) b.length c_b), (7, Sl (At b2 o2) b.length c_b), (8, I (b.length : Int)), (9, I ((b.length - 1 : Nat) : Int)), (10, Pt b2 (o2 + (b.length - 1) * 4)), (11, .agg #[I x2.epoch, U x2.root, U x2.prev, I x2.at_]), (12, Pt b3 0)]) ?_
   refine dr_mid [] [(0,0), (1,0), (2,0), (6,0), (7,0), (8,0)] [3, 4, 5, 9, 10, 11] [13] (List.forall_mem_cons.2 ⟨?_, (List.forall_mem_cons.2 ⟨?_, (List.forall_mem_cons.2 ⟨?_, (List.forall_mem_cons.2 ⟨?_, (List.forall_mem_cons.2 ⟨?_, (List.forall_mem_cons.2 ⟨?_, List.forall_mem_nil _⟩)⟩)⟩)⟩)⟩)⟩) (List.forall_mem_cons.2 ⟨?_, List.forall_mem_nil _⟩)
   ·
    refine stab_of 3 34 (I ((a.length - 1 : Nat) : Int)) [(33, I (a.length : Int))] (fun X => ?_)
    exact runL_p1 34 (I (IntKind.i64.wrap ((a.length : Int) - 1))) (I ((a.length - 1 : Nat) : Int)) (by simp only [e3]) stab_end
   ·
    refine stab_of 4 35 (Pt b1 (o1 + (a.length - 1) * 4)) [(31, Sl (At b1 o1) a.length c_a), (34, I ((a.length - 1 : Nat) : Int))] (fun X => ?_)
    exact runL_idx (b := b1) (off := o1) (len := a.length) (cap := c_a) (ik := .i64) 35 31 4 (a.length - 1) (by first | omega | (have q_ := fork_lens (a := a) (b := b) (by assumption); omega)) stab_end
   ·
    refine stab_of 5 36 (.agg #[I x1.epoch, U x1.root, U x1.prev, I x1.at_]) [(35, Pt b1 (o1 + (a.length - 1) * 4))] (fun X => ?_)
    exact runL_ldG 36 31 (cs := [I x1.epoch, U x1.root, U x1.prev, I x1.at_]) 0 (.agg #[I x1.epoch, U x1.root, U x1.prev, I x1.at_]) hc1 stab_end
   ·
    refine stab_of 9 40 (I ((b.length - 1 : Nat) : Int)) [(39, I (b.length : Int))] (fun X => ?_)
    exact runL_p1 40 (I (IntKind.i64.wrap ((b.length : Int) - 1))) (I ((b.length - 1 : Nat) : Int)) (by simp only [e4]) stab_end
   ·
    refine stab_of 10 41 (Pt b2 (o2 + (b.length - 1) * 4)) [(37, Sl (At b2 o2) b.length c_b), (40, I ((b.length - 1 : Nat) : Int))] (fun X => ?_)
    exact runL_idx (b := b2) (off := o2) (len := b.length) (cap := c_b) (ik := .i64) 41 31 4 (b.length - 1) (by first | omega | (have q_ := fork_lens (a := a) (b := b) (by assumption); omega)) stab_end
   ·
    refine stab_of 11 42 (.agg #[I x2.epoch, U x2.root, U x2.prev, I x2.at_]) [(41, Pt b2 (o2 + (b.length - 1) * 4))] (fun X => ?_)
    exact runL_ldG 42 31 (cs := [I x2.epoch, U x2.root, U x2.prev, I x2.at_]) 0 (.agg #[I x2.epoch, U x2.root, U x2.prev, I x2.at_]) hc2 stab_end
   refine act_of 13 [] (fun X => ?_)
   refine runL_box 11 #[I 0, U 0, U 0, I 0] 31 (fun b4 => ?_)
   have e5 : IntKind.i64.wrap ((a.length : Int) - 1) = ((a.length - 1 : Nat) : Int) := (IntWalk.i64_in _ (by first | omega | (have q_ := fork_lens (a := a) (b := b) (by assumption); omega))).trans (show (a.length : Int) - 1 = ((a.length - 1 : Nat) : Int) by have q_ := fork_lens (a := a) (b := b) (by assumption); omega)
   have e6 : IntKind.i64.wrap ((b.length : Int) - 1) = ((b.length - 1 : Nat) : Int) := (IntWalk.i64_in _ (by first | omega | (have q_ := fork_lens (a := a) (b := b) (by assumption); omega))).trans (show (b.length : Int) - 1 = ((b.length - 1 : Nat) : Int) by have q_ := fork_lens (a := a) (b := b) (by assumption); omega)
   refine act_end (V' := [(0, Sl (At b1 o1) a.length c_a), (1, Sl (At b1 o1) a.length c_a), (2, I (a.length : Int)), (3, I ((a.length - 1 : Nat) : Int)), (4, Pt b1 (o1 + (a.length - 1) * 4)), (5, .agg #[I x1.epoch, U x1.root, U x1.prev, I x1.at_]), (6, Sl (At b2 o2) b.length c_b), (7, Sl (At b2 o2) b.length c_b), (8, I (b.length : Int)), (9, I ((b.length - 1 : Nat) : Int)), (10, Pt b2 (o2 + (b.length - 1) * 4)), (11, .agg #[I x2.epoch, U x2.root, U x2.prev, I x2.at_]), (12, Pt b3 0), (13, Pt b4 0)]) ?_
   refine dr_mid [] [(0,0), (1,0), (2,0), (6,0), (7,0), (8,0)] [3, 4, 5, 9, 10, 11] [14] (List.forall_mem_cons.2 ⟨?_, (List.forall_mem_cons.2 ⟨?_, (List.forall_mem_cons.2 ⟨?_, (List.forall_mem_cons.2 ⟨?_, (List.forall_mem_cons.2 ⟨?_, (List.forall_mem_cons.2 ⟨?_, List.forall_mem_nil _⟩)⟩)⟩)⟩)⟩)⟩) (List.forall_mem_cons.2 ⟨?_, List.forall_mem_nil _⟩)
   ·
    refine stab_of 3 34 (I ((a.length - 1 : Nat) : Int)) [(33, I (a.length : Int))] (fun X => ?_)
    exact runL_p1 34 (I (IntKind.i64.wrap ((a.length : Int) - 1))) (I ((a.length - 1 : Nat) : Int)) (by simp only [e5]) stab_end
   ·
    refine stab_of 4 35 (Pt b1 (o1 + (a.length - 1) * 4)) [(31, Sl (At b1 o1) a.length c_a), (34, I ((a.length - 1 : Nat) : Int))] (fun X => ?_)
    exact runL_idx (b := b1) (off := o1) (len := a.length) (cap := c_a) (ik := .i64) 35 31 4 (a.length - 1) (by first | omega | (have q_ := fork_lens (a := a) (b := b) (by assumption); omega)) stab_end
   ·
    refine stab_of 5 36 (.agg #[I x1.epoch, U x1.root, U x1.prev, I x1.at_]) [(35, Pt b1 (o1 + (a.length - 1) * 4))] (fun X => ?_)
    exact runL_ldG 36 31 (cs := [I x1.epoch, U x1.root, U x1.prev, I x1.at_]) 0 (.agg #[I x1.epoch, U x1.root, U x1.prev, I x1.at_]) hc1 stab_end
   ·
    refine stab_of 9 40 (I ((b.length - 1 : Nat) : Int)) [(39, I (b.length : Int))] (fun X => ?_)
    exact runL_p1 40 (I (IntKind.i64.wrap ((b.length : Int) - 1))) (I ((b.length - 1 : Nat) : Int)) (by simp only [e6]) stab_end
   ·
    refine stab_of 10 41 (Pt b2 (o2 + (b.length - 1) * 4)) [(37, Sl (At b2 o2) b.length c_b), (40, I ((b.length - 1 : Nat) : Int))] (fun X => ?_)
    exact runL_idx (b := b2) (off := o2) (len := b.length) (cap := c_b) (ik := .i64) 41 31 4 (b.length - 1) (by first | omega | (have q_ := fork_lens (a := a) (b := b) (by assumption); omega)) stab_end
   ·
    refine stab_of 11 42 (.agg #[I x2.epoch, U x2.root, U x2.prev, I x2.at_]) [(41, Pt b2 (o2 + (b.length - 1) * 4))] (fun X => ?_)
    exact runL_ldG 42 31 (cs := [I x2.epoch, U x2.root, U x2.prev, I x2.at_]) 0 (.agg #[I x2.epoch, U x2.root, U x2.prev, I x2.at_]) hc2 stab_end
   refine act_of 14 [(10, Pt b3 0), (36, .agg #[I x1.epoch, U x1.root, U x1.prev, I x1.at_])] (fun X => ?_)
   refine runL_st 1 [[Sg b4 0 [I 0, U 0, U 0, I 0]], [Sg b3 0 [I x1.epoch, U x1.root, U x1.prev, I x1.at_]]] ?_
   have e7 : IntKind.i64.wrap ((b.length : Int) - 1) = ((b.length - 1 : Nat) : Int) := (IntWalk.i64_in _ (by first | omega | (have q_ := fork_lens (a := a) (b := b) (by assumption); omega))).trans (show (b.length : Int) - 1 = ((b.length - 1 : Nat) : Int) by have q_ := fork_lens (a := a) (b := b) (by assumption); omega)
   refine act_end0 (V' := [(0, Sl (At b1 o1) a.length c_a), (1, Sl (At b1 o1) a.length c_a), (2, I (a.length : Int)), (3, I ((a.length - 1 : Nat) : Int)), (4, Pt b1 (o1 + (a.length - 1) * 4)), (5, .agg #[I x1.epoch, U x1.root, U x1.prev, I x1.at_]), (6, Sl (At b2 o2) b.length c_b), (7, Sl (At b2 o2) b.length c_b), (8, I (b.length : Int)), (9, I ((b.length - 1 : Nat) : Int)), (10, Pt b2 (o2 + (b.length - 1) * 4)), (11, .agg #[I x2.epoch, U x2.root, U x2.prev, I x2.at_]), (12, Pt b3 0), (13, Pt b4 0)]) ?_
   refine dr_mid [0, 1, 2, 3, 4, 5] [(6,0), (7,0), (8,0)] [9, 10, 11] [15] (List.forall_mem_cons.2 ⟨?_, (List.forall_mem_cons.2 ⟨?_, (List.forall_mem_cons.2 ⟨?_, List.forall_mem_nil _⟩)⟩)⟩) (List.forall_mem_cons.2 ⟨?_, List.forall_mem_nil _⟩)
   ·
    refine stab_of 9 40 (I ((b.length - 1 : Nat) : Int)) [(39, I (b.length : Int))] (fun X => ?_)
    exact runL_p1 40 (I (IntKind.i64.wrap ((b.length : Int) - 1))) (I ((b.length - 1 : Nat) : Int)) (by simp only [e7]) stab_end
   ·
    refine stab_of 10 41 (Pt b2 (o2 + (b.length - 1) * 4)) [(37, Sl (At b2 o2) b.length c_b), (40, I ((b.length - 1 : Nat) : Int))] (fun X => ?_)
    exact runL_idx (b := b2) (off := o2) (len := b.length) (cap := c_b) (ik := .i64) 41 31 4 (b.length - 1) (by first | omega | (have q_ := fork_lens (a := a) (b := b) (by assumption); omega)) stab_end
   ·
    refine stab_of 11 42 (.agg #[I x2.epoch, U x2.root, U x2.prev, I x2.at_]) [(41, Pt b2 (o2 + (b.length - 1) * 4))] (fun X => ?_)
    exact runL_ldG 42 31 (cs := [I x2.epoch, U x2.root, U x2.prev, I x2.at_]) 0 (.agg #[I x2.epoch, U x2.root, U x2.prev, I x2.at_]) hc2 stab_end
   refine act_of 15 [(11, Pt b4 0), (42, .agg #[I x2.epoch, U x2.root, U x2.prev, I x2.at_])] (fun X => ?_)
   refine runL_st 0 [[Sg b4 0 [I x2.epoch, U x2.root, U x2.prev, I x2.at_]], [Sg b3 0 [I x1.epoch, U x1.root, U x1.prev, I x1.at_]]] ?_
   refine act_end0 (V' := [(0, Sl (At b1 o1) a.length c_a), (1, Sl (At b1 o1) a.length c_a), (2, I (a.length : Int)), (3, I ((a.length - 1 : Nat) : Int)), (4, Pt b1 (o1 + (a.length - 1) * 4)), (5, .agg #[I x1.epoch, U x1.root, U x1.prev, I x1.at_]), (6, Sl (At b2 o2) b.length c_b), (7, Sl (At b2 o2) b.length c_b), (8, I (b.length : Int)), (9, I ((b.length - 1 : Nat) : Int)), (10, Pt b2 (o2 + (b.length - 1) * 4)), (11, .agg #[I x2.epoch, U x2.root, U x2.prev, I x2.at_]), (12, Pt b3 0), (13, Pt b4 0)]) ?_
   refine dr_end [0, 1, 2, 3, 4, 5, 6, 7, 8, 9, 10, 11] [] [] [(5, I ((chainFork a b).1)), (7, Sr ((chainClash a b).1)), (8, Sr ((chainClash a b).2.1)), (9, I ((chainClash a b).2.2)), (10, Pt b3 0), (11, Pt b4 0)] (List.forall_mem_nil _) ?_
   refine tq_then (tc_seq (tc_seq (tc_region ?_)))
   refine runL_b [0,0,0] [(5, I ((chainFork a b).1)), (7, Sr ((chainClash a b).1)), (8, Sr ((chainClash a b).2.1)), (9, I ((chainClash a b).2.2)), (10, Pt b3 0), (11, Pt b4 0), (45, Bo (decide ((chainClash a b).2.2 = 0)))] ?_
   refine runL_cases (fun bb => [(5, I ((chainFork a b).1)), (7, Sr ((chainClash a b).1)), (8, Sr ((chainClash a b).2.1)), (9, I ((chainClash a b).2.2)), (10, Pt b3 0), (11, Pt b4 0), (45, Bo bb)]) (decide ((chainClash a b).2.2 = 0)) (fun h2 => ?_) (fun h2 => ?_)
   ·
    try simp only [BB] at h2
    refine runL_b [0,0] [(5, I ((chainFork a b).1)), (9, I ((chainClash a b).2.2)), (10, Pt b3 0), (11, Pt b4 0), (45, Bo true), (46, Sr ((chainClash a b).1)), (47, Sr ((chainClash a b).2.1))] ?_
    refine runL_callV 48 (Bo (!(((chainClash a b).1) == ((chainClash a b).2.1)) && decide (markOf ((chainClash a b).1) = markOf ((chainClash a b).2.1)))) (markAlike_con ((chainClash a b).1) ((chainClash a b).2.1) (le48r' (Nat.le_trans (clash_len a b).1 (by decide))) (le48r' (Nat.le_trans (clash_len a b).2 (by decide))) G) ?_
    refine runL_b [0,0] [(5, I ((chainFork a b).1)), (9, I ((chainClash a b).2.2)), (10, Pt b3 0), (11, Pt b4 0), (50, Bo (!(!(((chainClash a b).1) == ((chainClash a b).2.1)) && decide (markOf ((chainClash a b).1) = markOf ((chainClash a b).2.1)))))] (runL_nil (tq_then ?_))
    refine tc_cond (!(!(((chainClash a b).1) == ((chainClash a b).2.1)) && decide (markOf ((chainClash a b).1) = markOf ((chainClash a b).2.1)))) (fun h3 => ?_) (fun h3 => ?_)
    ·
     try simp only [BB] at h3
     refine tc_rb [0] [(4, Bo false)] (tc_ret (tq_then_ret ?_))
     refine tq_ret [0] [Bo false] (bp_ret (Mem.le_refl _) ?_)
     exfalso
     first | (rw [fork_err (by assumption)]; rfl) | (have q1_ := @binds_chain a b (by assumption); first | (have q2_ := binds_end (by assumption) hx1 hx2 (by assumption); first | exact absurd q2_ (by assumption) | (rw [q2_]; rfl) | (simp_all; done)) | (rw [Bool.or_eq_true, decide_eq_true_eq, decide_eq_true_eq]; rcases Decidable.em ((chainFork a b).1 < 0) with c_ | c_; exact .inr (q1_.1 c_); exact .inl (by omega)) | (rcases Decidable.em ((chainFork a b).1 < 0) with c_ | c_; exact q1_.1 c_; omega) | (have q0_ := @clash_alike a b (rs_headW (by assumption)) (rs_headW (by assumption)); have q2_ := q0_ (by simp_all); unfold alikeB at q2_; simp_all; done) | (have q0_ := @clash_alike a b (rs_headW (by assumption)) (rs_headW (by assumption)); simp_all; done))
    ·
     try simp only [BB] at h3
     refine tc_skip (tq_then (tc_seq (tc_seq (tc_region ?_))))
     refine runL_b [4,2] [(5, I ((chainFork a b).1)), (9, I ((chainClash a b).2.2)), (51, .agg #[I x1.epoch, U x1.root, U x1.prev, I x1.at_]), (52, .agg #[I x2.epoch, U x2.root, U x2.prev, I x2.at_])] ?_
     refine runL_eqv 53 (Bo (!(decide (x1.epoch = x2.epoch) && (decide (x1.root = x2.root) && (decide (x1.prev = x2.prev) && (decide (x1.at_ = x2.at_) && true)))))) (Bo (!(decide (x1.epoch = x2.epoch) && decide (x1.root = x2.root) && decide (x1.prev = x2.prev) && decide (x1.at_ = x2.at_)))) (by simp [B_toList, Bool.and_assoc]) ?_
     refine runL_b [0] [(5, I ((chainFork a b).1)), (9, I ((chainClash a b).2.2)), (54, Bo (!(decide (x1.epoch = x2.epoch) && decide (x1.root = x2.root) && decide (x1.prev = x2.prev) && decide (x1.at_ = x2.at_))))] ?_
     refine runL_b2 (!(decide (x1.epoch = x2.epoch) && decide (x1.root = x2.root) && decide (x1.prev = x2.prev) && decide (x1.at_ = x2.at_))) (fun bb => [(5, I ((chainFork a b).1)), (9, I ((chainClash a b).2.2)), (54, Bo bb)]) [1,1,0] [0,0,0] (fun bb => [(5, I ((chainFork a b).1)), (9, I ((chainClash a b).2.2)), (57, Bo (bb || (decide ((chainFork a b).1 < 0))))]) ?_
     refine runL_nil (tq_then ?_)
     refine tc_cond ((!(decide (x1.epoch = x2.epoch) && decide (x1.root = x2.root) && decide (x1.prev = x2.prev) && decide (x1.at_ = x2.at_))) || (decide ((chainFork a b).1 < 0))) (fun h4 => ?_) (fun h4 => ?_)
     ·
      try simp only [BB] at h4
      refine tc_seq (tc_region ?_)
      refine runL_b [0,0,0] [(9, I ((chainClash a b).2.2)), (60, Bo (decide ((chainFork a b).1 ≥ 0)))] ?_
      refine runL_b2 (decide ((chainFork a b).1 ≥ 0)) (fun bb => [(9, I ((chainClash a b).2.2)), (60, Bo bb)]) [1,1,0] [0,0,0] (fun bb => [(63, Bo (bb || (decide ((chainClash a b).2.2 = 6))))]) ?_
      refine runL_b [0] [(4, Bo ((decide ((chainFork a b).1 ≥ 0)) || (decide ((chainClash a b).2.2 = 6))))] (runL_nil (tq_then (tc_ret (tq_then_ret ?_))))
      refine tq_ret [0] [Bo ((decide ((chainFork a b).1 ≥ 0)) || (decide ((chainClash a b).2.2 = 6)))] (bp_ret (Mem.le_refl _) ?_)
      have hf_ : ((decide ((chainFork a b).1 ≥ 0)) || (decide ((chainClash a b).2.2 = 6))) = true := by
       first | (rw [fork_err (by assumption)]; rfl) | (have q1_ := @binds_chain a b (by assumption); first | (have q2_ := binds_end (by assumption) hx1 hx2 (by assumption); first | exact absurd q2_ (by assumption) | (rw [q2_]; rfl) | (simp_all; done)) | (rw [Bool.or_eq_true, decide_eq_true_eq, decide_eq_true_eq]; rcases Decidable.em ((chainFork a b).1 < 0) with c_ | c_; exact .inr (q1_.1 c_); exact .inl (by omega)) | (rcases Decidable.em ((chainFork a b).1 < 0) with c_ | c_; exact q1_.1 c_; omega) | (have q0_ := @clash_alike a b (rs_headW (by assumption)) (rs_headW (by assumption)); have q2_ := q0_ (by simp_all); unfold alikeB at q2_; simp_all; done) | (have q0_ := @clash_alike a b (rs_headW (by assumption)) (rs_headW (by assumption)); simp_all; done))
      exact congrArg Bo hf_
     ·
      try simp only [BB] at h4
      refine tc_skip (tq_then ?_)
      refine tc_rb [0,0,0] [(4, Bo (decide ((chainClash a b).2.2 = 0)))] (tc_ret ?_)
      refine tq_ret [0] [Bo (decide ((chainClash a b).2.2 = 0))] (bp_ret (Mem.le_refl _) ?_)
      have hf_ : (decide ((chainClash a b).2.2 = 0)) = true := by
       first | (rw [fork_err (by assumption)]; rfl) | (have q1_ := @binds_chain a b (by assumption); first | (have q2_ := binds_end (by assumption) hx1 hx2 (by assumption); first | exact absurd q2_ (by assumption) | (rw [q2_]; rfl) | (simp_all; done)) | (rw [Bool.or_eq_true, decide_eq_true_eq, decide_eq_true_eq]; rcases Decidable.em ((chainFork a b).1 < 0) with c_ | c_; exact .inr (q1_.1 c_); exact .inl (by omega)) | (rcases Decidable.em ((chainFork a b).1 < 0) with c_ | c_; exact q1_.1 c_; omega) | (have q0_ := @clash_alike a b (rs_headW (by assumption)) (rs_headW (by assumption)); have q2_ := q0_ (by simp_all); unfold alikeB at q2_; simp_all; done) | (have q0_ := @clash_alike a b (rs_headW (by assumption)) (rs_headW (by assumption)); simp_all; done))
      exact congrArg Bo hf_
   ·
    try simp only [BB] at h2
    refine runL_b [1,1,1,1,0] [(5, I ((chainFork a b).1)), (9, I ((chainClash a b).2.2)), (10, Pt b3 0), (11, Pt b4 0), (50, Bo false)] (runL_nil (tq_then ?_))
    refine tc_cond_false ?_
    refine tc_skip (tq_then (tc_seq (tc_seq (tc_region ?_))))
    refine runL_b [4,2] [(5, I ((chainFork a b).1)), (9, I ((chainClash a b).2.2)), (51, .agg #[I x1.epoch, U x1.root, U x1.prev, I x1.at_]), (52, .agg #[I x2.epoch, U x2.root, U x2.prev, I x2.at_])] ?_
    refine runL_eqv 53 (Bo (!(decide (x1.epoch = x2.epoch) && (decide (x1.root = x2.root) && (decide (x1.prev = x2.prev) && (decide (x1.at_ = x2.at_) && true)))))) (Bo (!(decide (x1.epoch = x2.epoch) && decide (x1.root = x2.root) && decide (x1.prev = x2.prev) && decide (x1.at_ = x2.at_)))) (by simp [B_toList, Bool.and_assoc]) ?_
    refine runL_b [0] [(5, I ((chainFork a b).1)), (9, I ((chainClash a b).2.2)), (54, Bo (!(decide (x1.epoch = x2.epoch) && decide (x1.root = x2.root) && decide (x1.prev = x2.prev) && decide (x1.at_ = x2.at_))))] ?_
    refine runL_b2 (!(decide (x1.epoch = x2.epoch) && decide (x1.root = x2.root) && decide (x1.prev = x2.prev) && decide (x1.at_ = x2.at_))) (fun bb => [(5, I ((chainFork a b).1)), (9, I ((chainClash a b).2.2)), (54, Bo bb)]) [1,1,0] [0,0,0] (fun bb => [(5, I ((chainFork a b).1)), (9, I ((chainClash a b).2.2)), (57, Bo (bb || (decide ((chainFork a b).1 < 0))))]) ?_
    refine runL_nil (tq_then ?_)
    refine tc_cond ((!(decide (x1.epoch = x2.epoch) && decide (x1.root = x2.root) && decide (x1.prev = x2.prev) && decide (x1.at_ = x2.at_))) || (decide ((chainFork a b).1 < 0))) (fun h5 => ?_) (fun h5 => ?_)
    ·
     try simp only [BB] at h5
     refine tc_seq (tc_region ?_)
     refine runL_b [0,0,0] [(9, I ((chainClash a b).2.2)), (60, Bo (decide ((chainFork a b).1 ≥ 0)))] ?_
     refine runL_b2 (decide ((chainFork a b).1 ≥ 0)) (fun bb => [(9, I ((chainClash a b).2.2)), (60, Bo bb)]) [1,1,0] [0,0,0] (fun bb => [(63, Bo (bb || (decide ((chainClash a b).2.2 = 6))))]) ?_
     refine runL_b [0] [(4, Bo ((decide ((chainFork a b).1 ≥ 0)) || (decide ((chainClash a b).2.2 = 6))))] (runL_nil (tq_then (tc_ret (tq_then_ret ?_))))
     refine tq_ret [0] [Bo ((decide ((chainFork a b).1 ≥ 0)) || (decide ((chainClash a b).2.2 = 6)))] (bp_ret (Mem.le_refl _) ?_)
     have hf_ : ((decide ((chainFork a b).1 ≥ 0)) || (decide ((chainClash a b).2.2 = 6))) = true := by
      first | (rw [fork_err (by assumption)]; rfl) | (have q1_ := @binds_chain a b (by assumption); first | (have q2_ := binds_end (by assumption) hx1 hx2 (by assumption); first | exact absurd q2_ (by assumption) | (rw [q2_]; rfl) | (simp_all; done)) | (rw [Bool.or_eq_true, decide_eq_true_eq, decide_eq_true_eq]; rcases Decidable.em ((chainFork a b).1 < 0) with c_ | c_; exact .inr (q1_.1 c_); exact .inl (by omega)) | (rcases Decidable.em ((chainFork a b).1 < 0) with c_ | c_; exact q1_.1 c_; omega) | (have q0_ := @clash_alike a b (rs_headW (by assumption)) (rs_headW (by assumption)); have q2_ := q0_ (by simp_all); unfold alikeB at q2_; simp_all; done) | (have q0_ := @clash_alike a b (rs_headW (by assumption)) (rs_headW (by assumption)); simp_all; done))
     exact congrArg Bo hf_
    ·
     try simp only [BB] at h5
     refine tc_skip (tq_then ?_)
     refine tc_rb [0,0,0] [(4, Bo (decide ((chainClash a b).2.2 = 0)))] (tc_ret ?_)
     refine tq_ret [0] [Bo (decide ((chainClash a b).2.2 = 0))] (bp_ret (Mem.le_refl _) ?_)
     have hf_ : (decide ((chainClash a b).2.2 = 0)) = true := by
      first | (rw [fork_err (by assumption)]; rfl) | (have q1_ := @binds_chain a b (by assumption); first | (have q2_ := binds_end (by assumption) hx1 hx2 (by assumption); first | exact absurd q2_ (by assumption) | (rw [q2_]; rfl) | (simp_all; done)) | (rw [Bool.or_eq_true, decide_eq_true_eq, decide_eq_true_eq]; rcases Decidable.em ((chainFork a b).1 < 0) with c_ | c_; exact .inr (q1_.1 c_); exact .inl (by omega)) | (rcases Decidable.em ((chainFork a b).1 < 0) with c_ | c_; exact q1_.1 c_; omega) | (have q0_ := @clash_alike a b (rs_headW (by assumption)) (rs_headW (by assumption)); have q2_ := q0_ (by simp_all); unfold alikeB at q2_; simp_all; done) | (have q0_ := @clash_alike a b (rs_headW (by assumption)) (rs_headW (by assumption)); simp_all; done))
     exact congrArg Bo hf_
  refine act_of 13 [] (fun X => ?_)
  refine runL_box 11 #[I 0, U 0, U 0, I 0] 31 (fun b5 => ?_)
  have e8 : IntKind.i64.wrap ((a.length : Int) - 1) = ((a.length - 1 : Nat) : Int) := (IntWalk.i64_in _ (by first | omega | (have q_ := fork_lens (a := a) (b := b) (by assumption); omega))).trans (show (a.length : Int) - 1 = ((a.length - 1 : Nat) : Int) by have q_ := fork_lens (a := a) (b := b) (by assumption); omega)
  have e9 : IntKind.i64.wrap ((b.length : Int) - 1) = ((b.length - 1 : Nat) : Int) := (IntWalk.i64_in _ (by first | omega | (have q_ := fork_lens (a := a) (b := b) (by assumption); omega))).trans (show (b.length : Int) - 1 = ((b.length - 1 : Nat) : Int) by have q_ := fork_lens (a := a) (b := b) (by assumption); omega)
  refine act_end (V' := [(0, Sl (At b1 o1) a.length c_a), (1, Sl (At b1 o1) a.length c_a), (2, I (a.length : Int)), (3, I ((a.length - 1 : Nat) : Int)), (4, Pt b1 (o1 + (a.length - 1) * 4)), (5, .agg #[I x1.epoch, U x1.root, U x1.prev, I x1.at_]), (6, Sl (At b2 o2) b.length c_b), (7, Sl (At b2 o2) b.length c_b), (8, I (b.length : Int)), (9, I ((b.length - 1 : Nat) : Int)), (10, Pt b2 (o2 + (b.length - 1) * 4)), (11, .agg #[I x2.epoch, U x2.root, U x2.prev, I x2.at_]), (13, Pt b5 0)]) ?_
  refine dr_mid [] [(0,0), (1,0), (2,0), (6,0), (7,0), (8,0)] [3, 4, 5, 9, 10, 11] [12] (List.forall_mem_cons.2 ⟨?_, (List.forall_mem_cons.2 ⟨?_, (List.forall_mem_cons.2 ⟨?_, (List.forall_mem_cons.2 ⟨?_, (List.forall_mem_cons.2 ⟨?_, (List.forall_mem_cons.2 ⟨?_, List.forall_mem_nil _⟩)⟩)⟩)⟩)⟩)⟩) (List.forall_mem_cons.2 ⟨?_, List.forall_mem_nil _⟩)
  ·
   refine stab_of 3 34 (I ((a.length - 1 : Nat) : Int)) [(33, I (a.length : Int))] (fun X => ?_)
   exact runL_p1 34 (I (IntKind.i64.wrap ((a.length : Int) - 1))) (I ((a.length - 1 : Nat) : Int)) (by simp only [e8]) stab_end
  ·
   refine stab_of 4 35 (Pt b1 (o1 + (a.length - 1) * 4)) [(31, Sl (At b1 o1) a.length c_a), (34, I ((a.length - 1 : Nat) : Int))] (fun X => ?_)
   exact runL_idx (b := b1) (off := o1) (len := a.length) (cap := c_a) (ik := .i64) 35 31 4 (a.length - 1) (by first | omega | (have q_ := fork_lens (a := a) (b := b) (by assumption); omega)) stab_end
  ·
   refine stab_of 5 36 (.agg #[I x1.epoch, U x1.root, U x1.prev, I x1.at_]) [(35, Pt b1 (o1 + (a.length - 1) * 4))] (fun X => ?_)
   exact runL_ldG 36 31 (cs := [I x1.epoch, U x1.root, U x1.prev, I x1.at_]) 0 (.agg #[I x1.epoch, U x1.root, U x1.prev, I x1.at_]) hc1 stab_end
  ·
   refine stab_of 9 40 (I ((b.length - 1 : Nat) : Int)) [(39, I (b.length : Int))] (fun X => ?_)
   exact runL_p1 40 (I (IntKind.i64.wrap ((b.length : Int) - 1))) (I ((b.length - 1 : Nat) : Int)) (by simp only [e9]) stab_end
  ·
   refine stab_of 10 41 (Pt b2 (o2 + (b.length - 1) * 4)) [(37, Sl (At b2 o2) b.length c_b), (40, I ((b.length - 1 : Nat) : Int))] (fun X => ?_)
   exact runL_idx (b := b2) (off := o2) (len := b.length) (cap := c_b) (ik := .i64) 41 31 4 (b.length - 1) (by first | omega | (have q_ := fork_lens (a := a) (b := b) (by assumption); omega)) stab_end
  ·
   refine stab_of 11 42 (.agg #[I x2.epoch, U x2.root, U x2.prev, I x2.at_]) [(41, Pt b2 (o2 + (b.length - 1) * 4))] (fun X => ?_)
   exact runL_ldG 42 31 (cs := [I x2.epoch, U x2.root, U x2.prev, I x2.at_]) 0 (.agg #[I x2.epoch, U x2.root, U x2.prev, I x2.at_]) hc2 stab_end
  refine act_of 12 [] (fun X => ?_)
  refine runL_box 10 #[I 0, U 0, U 0, I 0] 31 (fun b6 => ?_)
  have e10 : IntKind.i64.wrap ((a.length : Int) - 1) = ((a.length - 1 : Nat) : Int) := (IntWalk.i64_in _ (by first | omega | (have q_ := fork_lens (a := a) (b := b) (by assumption); omega))).trans (show (a.length : Int) - 1 = ((a.length - 1 : Nat) : Int) by have q_ := fork_lens (a := a) (b := b) (by assumption); omega)
  have e11 : IntKind.i64.wrap ((b.length : Int) - 1) = ((b.length - 1 : Nat) : Int) := (IntWalk.i64_in _ (by first | omega | (have q_ := fork_lens (a := a) (b := b) (by assumption); omega))).trans (show (b.length : Int) - 1 = ((b.length - 1 : Nat) : Int) by have q_ := fork_lens (a := a) (b := b) (by assumption); omega)
  refine act_end (V' := [(0, Sl (At b1 o1) a.length c_a), (1, Sl (At b1 o1) a.length c_a), (2, I (a.length : Int)), (3, I ((a.length - 1 : Nat) : Int)), (4, Pt b1 (o1 + (a.length - 1) * 4)), (5, .agg #[I x1.epoch, U x1.root, U x1.prev, I x1.at_]), (6, Sl (At b2 o2) b.length c_b), (7, Sl (At b2 o2) b.length c_b), (8, I (b.length : Int)), (9, I ((b.length - 1 : Nat) : Int)), (10, Pt b2 (o2 + (b.length - 1) * 4)), (11, .agg #[I x2.epoch, U x2.root, U x2.prev, I x2.at_]), (12, Pt b6 0), (13, Pt b5 0)]) ?_
  refine dr_mid [] [(0,0), (1,0), (2,0), (6,0), (7,0), (8,0)] [3, 4, 5, 9, 10, 11] [14] (List.forall_mem_cons.2 ⟨?_, (List.forall_mem_cons.2 ⟨?_, (List.forall_mem_cons.2 ⟨?_, (List.forall_mem_cons.2 ⟨?_, (List.forall_mem_cons.2 ⟨?_, (List.forall_mem_cons.2 ⟨?_, List.forall_mem_nil _⟩)⟩)⟩)⟩)⟩)⟩) (List.forall_mem_cons.2 ⟨?_, List.forall_mem_nil _⟩)
  ·
   refine stab_of 3 34 (I ((a.length - 1 : Nat) : Int)) [(33, I (a.length : Int))] (fun X => ?_)
   exact runL_p1 34 (I (IntKind.i64.wrap ((a.length : Int) - 1))) (I ((a.length - 1 : Nat) : Int)) (by simp only [e10]) stab_end
  ·
   refine stab_of 4 35 (Pt b1 (o1 + (a.length - 1) * 4)) [(31, Sl (At b1 o1) a.length c_a), (34, I ((a.length - 1 : Nat) : Int))] (fun X => ?_)
   exact runL_idx (b := b1) (off := o1) (len := a.length) (cap := c_a) (ik := .i64) 35 31 4 (a.length - 1) (by first | omega | (have q_ := fork_lens (a := a) (b := b) (by assumption); omega)) stab_end
  ·
   refine stab_of 5 36 (.agg #[I x1.epoch, U x1.root, U x1.prev, I x1.at_]) [(35, Pt b1 (o1 + (a.length - 1) * 4))] (fun X => ?_)
   exact runL_ldG 36 31 (cs := [I x1.epoch, U x1.root, U x1.prev, I x1.at_]) 0 (.agg #[I x1.epoch, U x1.root, U x1.prev, I x1.at_]) hc1 stab_end
  ·
   refine stab_of 9 40 (I ((b.length - 1 : Nat) : Int)) [(39, I (b.length : Int))] (fun X => ?_)
   exact runL_p1 40 (I (IntKind.i64.wrap ((b.length : Int) - 1))) (I ((b.length - 1 : Nat) : Int)) (by simp only [e11]) stab_end
  ·
   refine stab_of 10 41 (Pt b2 (o2 + (b.length - 1) * 4)) [(37, Sl (At b2 o2) b.length c_b), (40, I ((b.length - 1 : Nat) : Int))] (fun X => ?_)
   exact runL_idx (b := b2) (off := o2) (len := b.length) (cap := c_b) (ik := .i64) 41 31 4 (b.length - 1) (by first | omega | (have q_ := fork_lens (a := a) (b := b) (by assumption); omega)) stab_end
  ·
   refine stab_of 11 42 (.agg #[I x2.epoch, U x2.root, U x2.prev, I x2.at_]) [(41, Pt b2 (o2 + (b.length - 1) * 4))] (fun X => ?_)
   exact runL_ldG 42 31 (cs := [I x2.epoch, U x2.root, U x2.prev, I x2.at_]) 0 (.agg #[I x2.epoch, U x2.root, U x2.prev, I x2.at_]) hc2 stab_end
  refine act_of 14 [(10, Pt b6 0), (36, .agg #[I x1.epoch, U x1.root, U x1.prev, I x1.at_])] (fun X => ?_)
  refine runL_st 0 [[Sg b6 0 [I x1.epoch, U x1.root, U x1.prev, I x1.at_]], [Sg b5 0 [I 0, U 0, U 0, I 0]]] ?_
  have e12 : IntKind.i64.wrap ((b.length : Int) - 1) = ((b.length - 1 : Nat) : Int) := (IntWalk.i64_in _ (by first | omega | (have q_ := fork_lens (a := a) (b := b) (by assumption); omega))).trans (show (b.length : Int) - 1 = ((b.length - 1 : Nat) : Int) by have q_ := fork_lens (a := a) (b := b) (by assumption); omega)
  refine act_end0 (V' := [(0, Sl (At b1 o1) a.length c_a), (1, Sl (At b1 o1) a.length c_a), (2, I (a.length : Int)), (3, I ((a.length - 1 : Nat) : Int)), (4, Pt b1 (o1 + (a.length - 1) * 4)), (5, .agg #[I x1.epoch, U x1.root, U x1.prev, I x1.at_]), (6, Sl (At b2 o2) b.length c_b), (7, Sl (At b2 o2) b.length c_b), (8, I (b.length : Int)), (9, I ((b.length - 1 : Nat) : Int)), (10, Pt b2 (o2 + (b.length - 1) * 4)), (11, .agg #[I x2.epoch, U x2.root, U x2.prev, I x2.at_]), (12, Pt b6 0), (13, Pt b5 0)]) ?_
  refine dr_mid [0, 1, 2, 3, 4, 5] [(6,0), (7,0), (8,0)] [9, 10, 11] [15] (List.forall_mem_cons.2 ⟨?_, (List.forall_mem_cons.2 ⟨?_, (List.forall_mem_cons.2 ⟨?_, List.forall_mem_nil _⟩)⟩)⟩) (List.forall_mem_cons.2 ⟨?_, List.forall_mem_nil _⟩)
  ·
   refine stab_of 9 40 (I ((b.length - 1 : Nat) : Int)) [(39, I (b.length : Int))] (fun X => ?_)
   exact runL_p1 40 (I (IntKind.i64.wrap ((b.length : Int) - 1))) (I ((b.length - 1 : Nat) : Int)) (by simp only [e12]) stab_end
  ·
   refine stab_of 10 41 (Pt b2 (o2 + (b.length - 1) * 4)) [(37, Sl (At b2 o2) b.length c_b), (40, I ((b.length - 1 : Nat) : Int))] (fun X => ?_)
   exact runL_idx (b := b2) (off := o2) (len := b.length) (cap := c_b) (ik := .i64) 41 31 4 (b.length - 1) (by first | omega | (have q_ := fork_lens (a := a) (b := b) (by assumption); omega)) stab_end
  ·
   refine stab_of 11 42 (.agg #[I x2.epoch, U x2.root, U x2.prev, I x2.at_]) [(41, Pt b2 (o2 + (b.length - 1) * 4))] (fun X => ?_)
   exact runL_ldG 42 31 (cs := [I x2.epoch, U x2.root, U x2.prev, I x2.at_]) 0 (.agg #[I x2.epoch, U x2.root, U x2.prev, I x2.at_]) hc2 stab_end
  refine act_of 15 [(11, Pt b5 0), (42, .agg #[I x2.epoch, U x2.root, U x2.prev, I x2.at_])] (fun X => ?_)
  refine runL_st 1 [[Sg b6 0 [I x1.epoch, U x1.root, U x1.prev, I x1.at_]], [Sg b5 0 [I x2.epoch, U x2.root, U x2.prev, I x2.at_]]] ?_
  refine act_end0 (V' := [(0, Sl (At b1 o1) a.length c_a), (1, Sl (At b1 o1) a.length c_a), (2, I (a.length : Int)), (3, I ((a.length - 1 : Nat) : Int)), (4, Pt b1 (o1 + (a.length - 1) * 4)), (5, .agg #[I x1.epoch, U x1.root, U x1.prev, I x1.at_]), (6, Sl (At b2 o2) b.length c_b), (7, Sl (At b2 o2) b.length c_b), (8, I (b.length : Int)), (9, I ((b.length - 1 : Nat) : Int)), (10, Pt b2 (o2 + (b.length - 1) * 4)), (11, .agg #[I x2.epoch, U x2.root, U x2.prev, I x2.at_]), (12, Pt b6 0), (13, Pt b5 0)]) ?_
  refine dr_end [0, 1, 2, 3, 4, 5, 6, 7, 8, 9, 10, 11] [] [] [(5, I ((chainFork a b).1)), (7, Sr ((chainClash a b).1)), (8, Sr ((chainClash a b).2.1)), (9, I ((chainClash a b).2.2)), (10, Pt b6 0), (11, Pt b5 0)] (List.forall_mem_nil _) ?_
  refine tq_then (tc_seq (tc_seq (tc_region ?_)))
  refine runL_b [0,0,0] [(5, I ((chainFork a b).1)), (7, Sr ((chainClash a b).1)), (8, Sr ((chainClash a b).2.1)), (9, I ((chainClash a b).2.2)), (10, Pt b6 0), (11, Pt b5 0), (45, Bo (decide ((chainClash a b).2.2 = 0)))] ?_
  refine runL_cases (fun bb => [(5, I ((chainFork a b).1)), (7, Sr ((chainClash a b).1)), (8, Sr ((chainClash a b).2.1)), (9, I ((chainClash a b).2.2)), (10, Pt b6 0), (11, Pt b5 0), (45, Bo bb)]) (decide ((chainClash a b).2.2 = 0)) (fun h6 => ?_) (fun h6 => ?_)
  ·
   try simp only [BB] at h6
   refine runL_b [0,0] [(5, I ((chainFork a b).1)), (9, I ((chainClash a b).2.2)), (10, Pt b6 0), (11, Pt b5 0), (45, Bo true), (46, Sr ((chainClash a b).1)), (47, Sr ((chainClash a b).2.1))] ?_
   refine runL_callV 48 (Bo (!(((chainClash a b).1) == ((chainClash a b).2.1)) && decide (markOf ((chainClash a b).1) = markOf ((chainClash a b).2.1)))) (markAlike_con ((chainClash a b).1) ((chainClash a b).2.1) (le48r' (Nat.le_trans (clash_len a b).1 (by decide))) (le48r' (Nat.le_trans (clash_len a b).2 (by decide))) G) ?_
   refine runL_b [0,0] [(5, I ((chainFork a b).1)), (9, I ((chainClash a b).2.2)), (10, Pt b6 0), (11, Pt b5 0), (50, Bo (!(!(((chainClash a b).1) == ((chainClash a b).2.1)) && decide (markOf ((chainClash a b).1) = markOf ((chainClash a b).2.1)))))] (runL_nil (tq_then ?_))
   refine tc_cond (!(!(((chainClash a b).1) == ((chainClash a b).2.1)) && decide (markOf ((chainClash a b).1) = markOf ((chainClash a b).2.1)))) (fun h7 => ?_) (fun h7 => ?_)
   ·
    try simp only [BB] at h7
    refine tc_rb [0] [(4, Bo false)] (tc_ret (tq_then_ret ?_))
    refine tq_ret [0] [Bo false] (bp_ret (Mem.le_refl _) ?_)
    exfalso
    first | (rw [fork_err (by assumption)]; rfl) | (have q1_ := @binds_chain a b (by assumption); first | (have q2_ := binds_end (by assumption) hx1 hx2 (by assumption); first | exact absurd q2_ (by assumption) | (rw [q2_]; rfl) | (simp_all; done)) | (rw [Bool.or_eq_true, decide_eq_true_eq, decide_eq_true_eq]; rcases Decidable.em ((chainFork a b).1 < 0) with c_ | c_; exact .inr (q1_.1 c_); exact .inl (by omega)) | (rcases Decidable.em ((chainFork a b).1 < 0) with c_ | c_; exact q1_.1 c_; omega) | (have q0_ := @clash_alike a b (rs_headW (by assumption)) (rs_headW (by assumption)); have q2_ := q0_ (by simp_all); unfold alikeB at q2_; simp_all; done) | (have q0_ := @clash_alike a b (rs_headW (by assumption)) (rs_headW (by assumption)); simp_all; done))
   ·
    try simp only [BB] at h7
    refine tc_skip (tq_then (tc_seq (tc_seq (tc_region ?_))))
    refine runL_b [2,4] [(5, I ((chainFork a b).1)), (9, I ((chainClash a b).2.2)), (51, .agg #[I x1.epoch, U x1.root, U x1.prev, I x1.at_]), (52, .agg #[I x2.epoch, U x2.root, U x2.prev, I x2.at_])] ?_
    refine runL_eqv 53 (Bo (!(decide (x1.epoch = x2.epoch) && (decide (x1.root = x2.root) && (decide (x1.prev = x2.prev) && (decide (x1.at_ = x2.at_) && true)))))) (Bo (!(decide (x1.epoch = x2.epoch) && decide (x1.root = x2.root) && decide (x1.prev = x2.prev) && decide (x1.at_ = x2.at_)))) (by simp [B_toList, Bool.and_assoc]) ?_
    refine runL_b [0] [(5, I ((chainFork a b).1)), (9, I ((chainClash a b).2.2)), (54, Bo (!(decide (x1.epoch = x2.epoch) && decide (x1.root = x2.root) && decide (x1.prev = x2.prev) && decide (x1.at_ = x2.at_))))] ?_
    refine runL_b2 (!(decide (x1.epoch = x2.epoch) && decide (x1.root = x2.root) && decide (x1.prev = x2.prev) && decide (x1.at_ = x2.at_))) (fun bb => [(5, I ((chainFork a b).1)), (9, I ((chainClash a b).2.2)), (54, Bo bb)]) [1,1,0] [0,0,0] (fun bb => [(5, I ((chainFork a b).1)), (9, I ((chainClash a b).2.2)), (57, Bo (bb || (decide ((chainFork a b).1 < 0))))]) ?_
    refine runL_nil (tq_then ?_)
    refine tc_cond ((!(decide (x1.epoch = x2.epoch) && decide (x1.root = x2.root) && decide (x1.prev = x2.prev) && decide (x1.at_ = x2.at_))) || (decide ((chainFork a b).1 < 0))) (fun h8 => ?_) (fun h8 => ?_)
    ·
     try simp only [BB] at h8
     refine tc_seq (tc_region ?_)
     refine runL_b [0,0,0] [(9, I ((chainClash a b).2.2)), (60, Bo (decide ((chainFork a b).1 ≥ 0)))] ?_
     refine runL_b2 (decide ((chainFork a b).1 ≥ 0)) (fun bb => [(9, I ((chainClash a b).2.2)), (60, Bo bb)]) [1,1,0] [0,0,0] (fun bb => [(63, Bo (bb || (decide ((chainClash a b).2.2 = 6))))]) ?_
     refine runL_b [0] [(4, Bo ((decide ((chainFork a b).1 ≥ 0)) || (decide ((chainClash a b).2.2 = 6))))] (runL_nil (tq_then (tc_ret (tq_then_ret ?_))))
     refine tq_ret [0] [Bo ((decide ((chainFork a b).1 ≥ 0)) || (decide ((chainClash a b).2.2 = 6)))] (bp_ret (Mem.le_refl _) ?_)
     have hf_ : ((decide ((chainFork a b).1 ≥ 0)) || (decide ((chainClash a b).2.2 = 6))) = true := by
      first | (rw [fork_err (by assumption)]; rfl) | (have q1_ := @binds_chain a b (by assumption); first | (have q2_ := binds_end (by assumption) hx1 hx2 (by assumption); first | exact absurd q2_ (by assumption) | (rw [q2_]; rfl) | (simp_all; done)) | (rw [Bool.or_eq_true, decide_eq_true_eq, decide_eq_true_eq]; rcases Decidable.em ((chainFork a b).1 < 0) with c_ | c_; exact .inr (q1_.1 c_); exact .inl (by omega)) | (rcases Decidable.em ((chainFork a b).1 < 0) with c_ | c_; exact q1_.1 c_; omega) | (have q0_ := @clash_alike a b (rs_headW (by assumption)) (rs_headW (by assumption)); have q2_ := q0_ (by simp_all); unfold alikeB at q2_; simp_all; done) | (have q0_ := @clash_alike a b (rs_headW (by assumption)) (rs_headW (by assumption)); simp_all; done))
     exact congrArg Bo hf_
    ·
     try simp only [BB] at h8
     refine tc_skip (tq_then ?_)
     refine tc_rb [0,0,0] [(4, Bo (decide ((chainClash a b).2.2 = 0)))] (tc_ret ?_)
     refine tq_ret [0] [Bo (decide ((chainClash a b).2.2 = 0))] (bp_ret (Mem.le_refl _) ?_)
     have hf_ : (decide ((chainClash a b).2.2 = 0)) = true := by
      first | (rw [fork_err (by assumption)]; rfl) | (have q1_ := @binds_chain a b (by assumption); first | (have q2_ := binds_end (by assumption) hx1 hx2 (by assumption); first | exact absurd q2_ (by assumption) | (rw [q2_]; rfl) | (simp_all; done)) | (rw [Bool.or_eq_true, decide_eq_true_eq, decide_eq_true_eq]; rcases Decidable.em ((chainFork a b).1 < 0) with c_ | c_; exact .inr (q1_.1 c_); exact .inl (by omega)) | (rcases Decidable.em ((chainFork a b).1 < 0) with c_ | c_; exact q1_.1 c_; omega) | (have q0_ := @clash_alike a b (rs_headW (by assumption)) (rs_headW (by assumption)); have q2_ := q0_ (by simp_all); unfold alikeB at q2_; simp_all; done) | (have q0_ := @clash_alike a b (rs_headW (by assumption)) (rs_headW (by assumption)); simp_all; done))
     exact congrArg Bo hf_
  ·
   try simp only [BB] at h6
   refine runL_b [1,1,1,1,0] [(5, I ((chainFork a b).1)), (9, I ((chainClash a b).2.2)), (10, Pt b6 0), (11, Pt b5 0), (50, Bo false)] (runL_nil (tq_then ?_))
   refine tc_cond_false ?_
   refine tc_skip (tq_then (tc_seq (tc_seq (tc_region ?_))))
   refine runL_b [2,4] [(5, I ((chainFork a b).1)), (9, I ((chainClash a b).2.2)), (51, .agg #[I x1.epoch, U x1.root, U x1.prev, I x1.at_]), (52, .agg #[I x2.epoch, U x2.root, U x2.prev, I x2.at_])] ?_
   refine runL_eqv 53 (Bo (!(decide (x1.epoch = x2.epoch) && (decide (x1.root = x2.root) && (decide (x1.prev = x2.prev) && (decide (x1.at_ = x2.at_) && true)))))) (Bo (!(decide (x1.epoch = x2.epoch) && decide (x1.root = x2.root) && decide (x1.prev = x2.prev) && decide (x1.at_ = x2.at_)))) (by simp [B_toList, Bool.and_assoc]) ?_
   refine runL_b [0] [(5, I ((chainFork a b).1)), (9, I ((chainClash a b).2.2)), (54, Bo (!(decide (x1.epoch = x2.epoch) && decide (x1.root = x2.root) && decide (x1.prev = x2.prev) && decide (x1.at_ = x2.at_))))] ?_
   refine runL_b2 (!(decide (x1.epoch = x2.epoch) && decide (x1.root = x2.root) && decide (x1.prev = x2.prev) && decide (x1.at_ = x2.at_))) (fun bb => [(5, I ((chainFork a b).1)), (9, I ((chainClash a b).2.2)), (54, Bo bb)]) [1,1,0] [0,0,0] (fun bb => [(5, I ((chainFork a b).1)), (9, I ((chainClash a b).2.2)), (57, Bo (bb || (decide ((chainFork a b).1 < 0))))]) ?_
   refine runL_nil (tq_then ?_)
   refine tc_cond ((!(decide (x1.epoch = x2.epoch) && decide (x1.root = x2.root) && decide (x1.prev = x2.prev) && decide (x1.at_ = x2.at_))) || (decide ((chainFork a b).1 < 0))) (fun h9 => ?_) (fun h9 => ?_)
   ·
    try simp only [BB] at h9
    refine tc_seq (tc_region ?_)
    refine runL_b [0,0,0] [(9, I ((chainClash a b).2.2)), (60, Bo (decide ((chainFork a b).1 ≥ 0)))] ?_
    refine runL_b2 (decide ((chainFork a b).1 ≥ 0)) (fun bb => [(9, I ((chainClash a b).2.2)), (60, Bo bb)]) [1,1,0] [0,0,0] (fun bb => [(63, Bo (bb || (decide ((chainClash a b).2.2 = 6))))]) ?_
    refine runL_b [0] [(4, Bo ((decide ((chainFork a b).1 ≥ 0)) || (decide ((chainClash a b).2.2 = 6))))] (runL_nil (tq_then (tc_ret (tq_then_ret ?_))))
    refine tq_ret [0] [Bo ((decide ((chainFork a b).1 ≥ 0)) || (decide ((chainClash a b).2.2 = 6)))] (bp_ret (Mem.le_refl _) ?_)
    have hf_ : ((decide ((chainFork a b).1 ≥ 0)) || (decide ((chainClash a b).2.2 = 6))) = true := by
     first | (rw [fork_err (by assumption)]; rfl) | (have q1_ := @binds_chain a b (by assumption); first | (have q2_ := binds_end (by assumption) hx1 hx2 (by assumption); first | exact absurd q2_ (by assumption) | (rw [q2_]; rfl) | (simp_all; done)) | (rw [Bool.or_eq_true, decide_eq_true_eq, decide_eq_true_eq]; rcases Decidable.em ((chainFork a b).1 < 0) with c_ | c_; exact .inr (q1_.1 c_); exact .inl (by omega)) | (rcases Decidable.em ((chainFork a b).1 < 0) with c_ | c_; exact q1_.1 c_; omega) | (have q0_ := @clash_alike a b (rs_headW (by assumption)) (rs_headW (by assumption)); have q2_ := q0_ (by simp_all); unfold alikeB at q2_; simp_all; done) | (have q0_ := @clash_alike a b (rs_headW (by assumption)) (rs_headW (by assumption)); simp_all; done))
    exact congrArg Bo hf_
   ·
    try simp only [BB] at h9
    refine tc_skip (tq_then ?_)
    refine tc_rb [0,0,0] [(4, Bo (decide ((chainClash a b).2.2 = 0)))] (tc_ret ?_)
    refine tq_ret [0] [Bo (decide ((chainClash a b).2.2 = 0))] (bp_ret (Mem.le_refl _) ?_)
    have hf_ : (decide ((chainClash a b).2.2 = 0)) = true := by
     first | (rw [fork_err (by assumption)]; rfl) | (have q1_ := @binds_chain a b (by assumption); first | (have q2_ := binds_end (by assumption) hx1 hx2 (by assumption); first | exact absurd q2_ (by assumption) | (rw [q2_]; rfl) | (simp_all; done)) | (rw [Bool.or_eq_true, decide_eq_true_eq, decide_eq_true_eq]; rcases Decidable.em ((chainFork a b).1 < 0) with c_ | c_; exact .inr (q1_.1 c_); exact .inl (by omega)) | (rcases Decidable.em ((chainFork a b).1 < 0) with c_ | c_; exact q1_.1 c_; omega) | (have q0_ := @clash_alike a b (rs_headW (by assumption)) (rs_headW (by assumption)); have q2_ := q0_ (by simp_all); unfold alikeB at q2_; simp_all; done) | (have q0_ := @clash_alike a b (rs_headW (by assumption)) (rs_headW (by assumption)); simp_all; done))
    exact congrArg Bo hf_
end Go.Proofs.Ytmpakffajpnffaa
