import Derived.Test.YtpofnmobbbcpgaaGreatDoorZaProve
import Derived.Test.YtpofnmobbbcpgaaGreatDoorZaMap
namespace Go.Proofs.YtpofnmobbbcpgaaGreatDoor
open Go.Tx
set_option linter.unusedVariables false
set_option linter.unusedSimpArgs false
open Go.Tx Go.Proofs
def lastB (l : List (List EntD)) : List EntD := l[l.length - 1]?.getD []
theorem lastB_get {l : List (List EntD)} {k : Nat} {x : List EntD} (hk : k = l.length - 1) (h : l[k]? = some x) : x = lastB l := by unfold lastB; rw [← hk, h]; rfl
def entNames (l : List EntD) : List (List UInt8) := l.map fun x => x.name
def askNames (l : List AskD) : List (List UInt8) := l.map fun x => x.name
def clerkNs (c : ClerkD) (m : List (List UInt8)) : List (List UInt8) := entNames (lastB c.books) ++ askNames c.queue.wait ++ m
def clerkNames (c : ClerkD) (m : List (List UInt8)) : Int := (nn (clerkNs c m) : Int)
theorem entNames_next {l : List EntD} {i : Nat} {x : EntD} (h : l[i]? = some x) : entNames (l.take (i + 1)) = entNames (l.take i) ++ [x.name] := by unfold entNames; rw [List.take_add_one, h]; simp
theorem askNames_next {l : List AskD} {i : Nat} {x : AskD} (h : l[i]? = some x) : askNames (l.take (i + 1)) = askNames (l.take i) ++ [x.name] := by unfold askNames; rw [List.take_add_one, h]; simp
theorem txt_next {l : List (List UInt8)} {i : Nat} {x : List UInt8} (h : l[i]? = some x) : l.take (i + 1) = l.take i ++ [x] := by rw [List.take_add_one, h]; rfl
def spanI (n most : Int) : Bool := decide (n ≥ 1) && decide (n ≤ most)
theorem spanI_iff {n most : Int} : spanI n most = true ↔ 1 ≤ n ∧ n ≤ most := by unfold spanI; simp
def headFirst (root a : Int) : HeadD × Int := if ¬ headCheck ⟨0, root, 0, a⟩ = 0 then (headZ, headCheck ⟨0, root, 0, a⟩) else (⟨0, root, 0, a⟩, 0)
theorem headFirst_bd {r a : Int} (hr : 0 ≤ r ∧ r < 18446744073709551616) (ha : -9223372036854775808 ≤ a ∧ a < 9223372036854775808) : (-9223372036854775808 ≤ (headFirst r a).1.epoch ∧ (headFirst r a).1.epoch < 9223372036854775808) ∧ (0 ≤ (headFirst r a).1.root ∧ (headFirst r a).1.root < 18446744073709551616) ∧ (0 ≤ (headFirst r a).1.prev ∧ (headFirst r a).1.prev < 18446744073709551616) ∧ (-9223372036854775808 ≤ (headFirst r a).1.at_ ∧ (headFirst r a).1.at_ < 9223372036854775808) := by
  unfold headFirst headZ; split <;> simp <;> omega
theorem entNames_len (l : List EntD) : (entNames l).length = l.length := by simp [entNames]
theorem askNames_len (l : List AskD) : (askNames l).length = l.length := by simp [askNames]
def clerkZ : ClerkD := ⟨⟨0, []⟩, 0, 0, 0, [], []⟩
def clerkNew (most batch every : Int) : ClerkD × Int := if spanI most 30 = false ∨ spanI batch 30 = false ∨ spanI every 1000 = false then (clerkZ, 4) else (⟨⟨most, []⟩, batch, every, 0, [(headFirst (treeAtE [] []).1 0).1], [[]]⟩, 0)
def booksE : List HeadD → List (List EntD) → Int
  | _, [] => 0
  | hs, l :: bs => if ¬ (treeAtE l []).2 = 0 then (treeAtE l []).2 else if ¬ (treeAtE l []).1 = (firstH hs).root then 8 else booksE (hs.drop 1) bs
def clerkBooks (c : ClerkD) : Int := if (¬ (firstH c.heads).epoch = 0 ∨ ¬ (c.books.length : Int) = c.heads.length) ∨ (lastH c.heads).at_ > c.now then 3 else booksE c.heads c.books
theorem booksE_drop {hs : List HeadD} {bs : List (List EntD)} {i : Nat} {x : List EntD} (hx : bs[i]? = some x) : booksE (hs.drop i) (bs.drop i) = if ¬ (treeAtE x []).2 = 0 then (treeAtE x []).2 else if ¬ (treeAtE x []).1 = (hs[i]?.getD headZ).root then 8 else booksE (hs.drop (i + 1)) (bs.drop (i + 1)) := by
  obtain ⟨hl, he⟩ := List.getElem?_eq_some_iff.1 hx
  rw [List.drop_eq_getElem_cons hl, he]
  show (if _ then _ else if _ then _ else _) = _
  have : firstH (hs.drop i) = hs[i]?.getD headZ := by unfold firstH; rw [List.getElem?_drop]; simp
  rw [this, List.drop_drop]
theorem booksE_step {hs : List HeadD} {bs : List (List EntD)} {i : Nat} {x : List EntD} {h : HeadD} (hx : bs[i]? = some x) (hh : hs[i]? = some h) (h0 : (treeAtE x []).2 = 0) (h1 : (treeAtE x []).1 = h.root) : booksE (hs.drop i) (bs.drop i) = booksE (hs.drop (i + 1)) (bs.drop (i + 1)) := by
  rw [booksE_drop hx, if_neg (by omega), hh, if_neg (by simpa using h1)]
theorem booksE_at1 {hs : List HeadD} {bs : List (List EntD)} {i : Nat} {x : List EntD} (hx : bs[i]? = some x) (h0 : ¬ (treeAtE x []).2 = 0) : booksE (hs.drop i) (bs.drop i) = (treeAtE x []).2 := by
  rw [booksE_drop hx, if_pos h0]
theorem booksE_at2 {hs : List HeadD} {bs : List (List EntD)} {i : Nat} {x : List EntD} {h : HeadD} (hx : bs[i]? = some x) (hh : hs[i]? = some h) (h0 : (treeAtE x []).2 = 0) (h1 : ¬ (treeAtE x []).1 = h.root) : booksE (hs.drop i) (bs.drop i) = 8 := by
  rw [booksE_drop hx, if_neg (by omega), hh, if_pos (by simpa using h1)]
theorem booksE_iff : ∀ (bs : List (List EntD)) (hs : List HeadD), booksE hs bs = 0 ↔ ∀ (k : Nat) x, bs[k]? = some x → (treeAtE x []).2 = 0 ∧ (treeAtE x []).1 = (hs[k]?.getD headZ).root
  | [], hs => by simp [booksE]
  | l :: bs, hs => by
    have ih := booksE_iff bs (hs.drop 1)
    have e : firstH hs = hs[0]?.getD headZ := rfl
    unfold booksE
    constructor
    · intro h
      split at h
      · contradiction
      split at h
      · cases h
      · rename_i h1 h2
        intro k x hx
        cases k with
        | zero => simp only [List.getElem?_cons_zero, Option.some.injEq] at hx; subst hx; exact ⟨Decidable.not_not.1 h1, by rw [← e]; exact Decidable.not_not.1 h2⟩
        | succ k =>
          have := ih.1 h k x (by simpa using hx)
          rw [List.getElem?_drop, Nat.add_comm] at this; exact this
    · intro h
      obtain ⟨h1, h2⟩ := h 0 l rfl
      rw [if_neg (by omega), if_neg (by rw [e]; omega)]
      refine ih.2 fun k x hx => ?_
      rw [List.getElem?_drop, Nat.add_comm]
      exact h (k + 1) x (by simpa using hx)
def clerkCheck (c : ClerkD) : Int := if ¬ queueCheck c.queue = 0 then queueCheck c.queue else if (spanI c.batch 30 = false ∨ spanI c.every 1000 = false) ∨ c.now < 0 ∨ c.now > 1000000000 then 4 else if ¬ (chainCheck c.heads).1 = 0 then (chainCheck c.heads).1 else if ¬ clerkBooks c = 0 then clerkBooks c else if clerkNames c [] > 24 then 7 else 0
structure ClerkOk (c : ClerkD) : Prop where
  queue : queueCheck c.queue = 0
  batch : 1 ≤ c.batch ∧ c.batch ≤ 30
  every : 1 ≤ c.every ∧ c.every ≤ 1000
  now : 0 ≤ c.now ∧ c.now ≤ 1000000000
  chain : ChainOk c.heads
  first : (firstH c.heads).epoch = 0
  len : c.books.length = c.heads.length
  at_ : (lastH c.heads).at_ ≤ c.now
  root : ∀ (k : Nat) x, c.books[k]? = some x → (treeAtE x []).2 = 0 ∧ (treeAtE x []).1 = (c.heads[k]?.getD headZ).root
  names : nn (clerkNs c []) ≤ 24
theorem clerkBooks_iff {c : ClerkD} : clerkBooks c = 0 ↔ (firstH c.heads).epoch = 0 ∧ c.books.length = c.heads.length ∧ (lastH c.heads).at_ ≤ c.now ∧ ∀ (k : Nat) x, c.books[k]? = some x → (treeAtE x []).2 = 0 ∧ (treeAtE x []).1 = (c.heads[k]?.getD headZ).root := by
  unfold clerkBooks
  rw [← booksE_iff]
  split
  · rename_i h
    refine ⟨fun e => (by cases e), fun ⟨a, b, d, _⟩ => ?_⟩
    rcases h with (h | h) | h
    · exact absurd a h
    · omega
    · omega
  · rename_i h
    simp only [not_or, Decidable.not_not] at h
    refine ⟨fun e => ⟨h.1.1, by have := h.1.2; omega, by omega, e⟩, fun e => e.2.2.2⟩
theorem clerkCheck_iff {c : ClerkD} : clerkCheck c = 0 ↔ ClerkOk c := by
  unfold clerkCheck
  constructor
  · intro h
    split at h
    · contradiction
    split at h
    · cases h
    split at h
    · contradiction
    split at h
    · contradiction
    split at h
    · cases h
    · rename_i h1 h2 h3 h4 h5
      simp only [not_or, Bool.not_eq_false] at h2
      obtain ⟨⟨a1, a2⟩, a3, a4⟩ := h2
      obtain ⟨b1, b2, b3, b4⟩ := clerkBooks_iff.1 (Decidable.not_not.1 h4)
      unfold clerkNames at h5
      exact ⟨Decidable.not_not.1 h1, spanI_iff.1 a1, spanI_iff.1 a2, ⟨by omega, by omega⟩, chainCheck_iff.1 (Decidable.not_not.1 h3), b1, b2, b3, b4, by omega⟩
  · intro h
    have e1 := spanI_iff.2 h.batch
    have e2 := spanI_iff.2 h.every
    have e3 := clerkBooks_iff.2 ⟨h.first, h.len, h.at_, h.root⟩
    have e4 := chainCheck_iff.2 h.chain
    have e5 := h.names
    have e6 := h.now
    rw [if_neg (by rw [h.queue]; simp), if_neg (by rw [e1, e2]; simp; omega), if_neg (by rw [e4]; simp), if_neg (by rw [e3]; simp), if_neg (by unfold clerkNames; omega)]
theorem bk_bad {c : ClerkD} {x : HeadD} (h : (c.heads[0]? = some x ∧ ¬ x.epoch = 0) ∨ ¬ (c.books.length : Int) = c.heads.length ∨ (∃ y, c.heads[c.heads.length - 1]? = some y ∧ y.at_ > c.now)) : clerkBooks c = 3 := by
  unfold clerkBooks
  rw [if_pos]
  rcases h with ⟨h, h2⟩ | h | ⟨y, h, h2⟩
  · rw [firstH_get h] at h2; exact .inl (.inl h2)
  · exact .inl (.inr h)
  · rw [lastH_get rfl h] at h2; exact .inr h2
theorem bk_go {c : ClerkD} {x y : HeadD} (hx : c.heads[0]? = some x) (h1 : x.epoch = 0) (h2 : (c.books.length : Int) = c.heads.length) (hy : c.heads[c.heads.length - 1]? = some y) (h3 : ¬ y.at_ > c.now) : clerkBooks c = booksE c.heads c.books := by
  unfold clerkBooks
  rw [firstH_get hx] at h1; rw [lastH_get rfl hy] at h3
  rw [if_neg]
  rintro ((h | h) | h)
  · exact h h1
  · exact h h2
  · exact h3 h
theorem checked {c : ClerkD} (hq : queueCheck c.queue = 0) (hc : (chainCheck c.heads).1 = 0) (hb : clerkBooks c = 0) : 0 < c.books.length ∧ c.books.length ≤ 1000 ∧ (lastB c.books).length ≤ 1000 ∧ c.queue.wait.length ≤ 1000 := by
  have h1 := queueCheck_iff.1 hq
  have h2 := chainCheck_iff.1 hc
  obtain ⟨_, b2, _, b4⟩ := clerkBooks_iff.1 hb
  have l1 := h2.len1; have l2 := h2.len
  have hl : c.books.length - 1 < c.books.length := by omega
  have e : c.books[c.books.length - 1]? = some (lastB c.books) := by unfold lastB; rw [List.getElem?_eq_getElem hl]; rfl
  have := (treeAtE_ok (b4 _ _ e).1).1.len
  omega
def clerkBook (c : ClerkD) (epoch : Int) : List EntD × Int := if ¬ clerkCheck c = 0 then ([], clerkCheck c) else if epoch < 0 ∨ epoch ≥ c.books.length then ([], 4) else (c.books[epoch.toNat]?.getD [], 0)
def mapRen : Go.Shelf.Ren := ⟨fun x => if Nat.beq x 7 then 55 else if Nat.beq x 8 then 54 else if Nat.beq x 10 then 78 else if Nat.beq x 11 then 77 else 0, fun x => if Nat.beq x 0 then 0 else if Nat.beq x 4 then 4 else if Nat.beq x 23 then 111 else if Nat.beq x 24 then 96 else if Nat.beq x 26 then 9 else if Nat.beq x 27 then 113 else if Nat.beq x 28 then 114 else if Nat.beq x 33 then 148 else if Nat.beq x 3 then 4 else 0, fun x => x⟩
theorem lay_n7 : SlLaysZ.n7 Tryz.prog mapRen := {
  mixed := rfl,
  f7 := ⟨Tryz.f55.name, by decide, Tryz.func55.trans (by kernel_rfl)⟩,
  f10 := ⟨Tryz.f78.name, by decide, Tryz.func78.trans (by kernel_rfl)⟩,
  t0 := by kernel_rfl,
  a0 := by intro w; kernel_rfl,
  z0 := by intro w; kernel_rfl,
  v0 := by intro w; kernel_rfl,
  t4 := by kernel_rfl,
  a4 := by intro w; kernel_rfl,
  z4 := by intro w; kernel_rfl,
  v4 := by intro w; kernel_rfl,
  t23 := by kernel_rfl,
  a23 := by intro w; kernel_rfl,
  z23 := by intro w; kernel_rfl,
  v23 := by intro w; kernel_rfl,
  t26 := by kernel_rfl,
  a26 := by intro w; kernel_rfl,
  z26 := by intro w; kernel_rfl,
  v26 := by intro w; kernel_rfl,
  t27 := by kernel_rfl,
  a27 := by intro w; kernel_rfl,
  z27 := by intro w; kernel_rfl,
  v27 := by intro w; kernel_rfl,
  t28 := by kernel_rfl,
  a28 := by intro w; kernel_rfl,
  z28 := by intro w; kernel_rfl,
  v28 := by intro w; kernel_rfl,
  t33 := by kernel_rfl,
  a33 := by intro w; kernel_rfl,
  z33 := by intro w; kernel_rfl,
  v33 := by intro w; kernel_rfl }
theorem lay_n8 : SlLaysZ.n8 Tryz.prog mapRen := {
  mixed := rfl,
  f8 := ⟨Tryz.f54.name, by decide, Tryz.func54.trans (by kernel_rfl)⟩,
  f11 := ⟨Tryz.f77.name, by decide, Tryz.func77.trans (by kernel_rfl)⟩,
  t0 := by kernel_rfl,
  a0 := by intro w; kernel_rfl,
  z0 := by intro w; kernel_rfl,
  v0 := by intro w; kernel_rfl,
  t24 := by kernel_rfl,
  a24 := by intro w; kernel_rfl,
  z24 := by intro w; kernel_rfl,
  v24 := by intro w; kernel_rfl,
  t26 := by kernel_rfl,
  a26 := by intro w; kernel_rfl,
  z26 := by intro w; kernel_rfl,
  v26 := by intro w; kernel_rfl,
  t28 := by kernel_rfl,
  a28 := by intro w; kernel_rfl,
  z28 := by intro w; kernel_rfl,
  v28 := by intro w; kernel_rfl,
  i26 := by kernel_rfl }
theorem lay_n10 : SlLaysZ.n10 Tryz.prog mapRen := {
  mixed := rfl,
  f10 := ⟨Tryz.f78.name, by decide, Tryz.func78.trans (by kernel_rfl)⟩,
  t0 := by kernel_rfl,
  a0 := by intro w; kernel_rfl,
  z0 := by intro w; kernel_rfl,
  v0 := by intro w; kernel_rfl,
  t4 := by kernel_rfl,
  a4 := by intro w; kernel_rfl,
  z4 := by intro w; kernel_rfl,
  v4 := by intro w; kernel_rfl,
  t23 := by kernel_rfl,
  a23 := by intro w; kernel_rfl,
  z23 := by intro w; kernel_rfl,
  v23 := by intro w; kernel_rfl,
  t26 := by kernel_rfl,
  a26 := by intro w; kernel_rfl,
  z26 := by intro w; kernel_rfl,
  v26 := by intro w; kernel_rfl,
  t33 := by kernel_rfl,
  a33 := by intro w; kernel_rfl,
  z33 := by intro w; kernel_rfl,
  v33 := by intro w; kernel_rfl }
theorem headFirst_con (G : Mem) (root : Int) (hw_root : 0 ≤ root ∧ root < 18446744073709551616) (a : Int) (hw_a : -9223372036854775808 ≤ a ∧ a < 9223372036854775808)  : ConV 37 #[U root, I a] G (.tuple #[.agg #[I (((headFirst root a).1).epoch), U (((headFirst root a).1).root), U (((headFirst root a).1).prev), I (((headFirst root a).1).at_)], I ((headFirst root a).2)]) := by
 refine con_of Tryz.func37 18 [(0, U root), (1, I a)] rfl (fun w0 G0 => ?_)
 refine tc_seq (tc_region ?_)
 refine runL_box 4 #[I 0, U 0, U 0, I 0] 24 (fun b1 => ?_)
 refine runL_bn [0] [] (runL_nil (tq_then (tc_seq (tc_region ?_))))
 refine runL_bn [0,0,0] [(10, .agg #[I 0, U root, U 0, I a])] ?_
 refine runL_box 6 #[I 0, U 0, U 0, I 0] 24 (fun b2 => ?_)
 refine runL_bsn [3] [] [[Sg b2 0 [I 0, U root, U 0, I a]], [Sg b1 0 [I 0, U 0, U 0, I 0]]] (runL_nil (tq_then (tc_seq (tc_seq (tc_region ?_)))))
 refine runL_bn [2] [(11, .agg #[I 0, U root, U 0, I a])] ?_
 refine runL_callV 12 (I (headCheck (⟨0, root, 0, a⟩ : HeadD))) (headCheck_con (⟨0, root, 0, a⟩ : HeadD) G) ?_
 refine runL_bn [0] [(7, I (headCheck (⟨0, root, 0, a⟩ : HeadD)))] (runL_nil (tq_then ?_))
 refine tc_rbn [0,0] [(14, Bo (!decide (headCheck (⟨0, root, 0, a⟩ : HeadD) = 0)))] ?_
 refine tc_condP (!decide (headCheck (⟨0, root, 0, a⟩ : HeadD) = 0)) (fun h1 => ?_) (fun h1 => ?_)
 ·
  refine tc_rbn [0,0,5,0] [(5, I (headCheck (⟨0, root, 0, a⟩ : HeadD)))] (tc_ret (tq_then_ret ?_))
  refine tq_ret [1, 0] [.agg #[I 0, U 0, U 0, I 0], I (headCheck (⟨0, root, 0, a⟩ : HeadD))] (bp_ret (Mem.le_refl _) ?_)
  have hf_ : (headFirst root a) = ((⟨0, 0, 0, 0⟩ : HeadD), (headCheck (⟨0, root, 0, a⟩ : HeadD))) := by
   unfold headFirst headZ; first | (rw [if_pos (by assumption)]; done) | (rw [if_neg (by omega)]; done)
  (try rw [hf_]); first | with_reducible rfl | (simp only [packR]; done) | rfl
 ·
  refine tc_skip (tq_then ?_)
  refine tc_rbsn [2,5,0] [(5, I 0)] [[Sg b2 0 [I 0, U root, U 0, I a]], [Sg b1 0 [I 0, U root, U 0, I a]]] (tc_ret ?_)
  refine tq_ret [1, 0] [.agg #[I 0, U root, U 0, I a], I 0] (bp_ret (Mem.le_refl _) ?_)
  have hf_ : (headFirst root a) = ((⟨0, root, 0, a⟩ : HeadD), 0) := by
   unfold headFirst headZ; first | (rw [if_pos (by assumption)]; done) | (rw [if_neg (by omega)]; done)
  (try rw [hf_]); first | with_reducible rfl | (simp only [packR]; done) | rfl
theorem spanI_con (G : Mem) (n : Int) (most : Int)  : ConV 36 #[I n, I most] G (Bo (spanI n most)) := by
 refine con_of Tryz.func36 12 [(0, I n), (1, I most)] rfl (fun w0 G0 => ?_)
 refine tc_rbn [0] [] (tc_seq (tc_region ?_))
 refine runL_bn [0,0,0] [(7, Bo (decide (n ≥ 1)))] ?_
 refine runL_b2n (decide (n ≥ 1)) [7] [0,0,0,0] [1,1,1,0] (fun bb => [(11, Bo (bb && (decide (n ≤ most))))]) ?_
 refine runL_bn [0] [(4, Bo ((decide (n ≥ 1)) && (decide (n ≤ most))))] (runL_nil (tq_then (tc_ret ?_)))
 refine tq_ret [0] [Bo ((decide (n ≥ 1)) && (decide (n ≤ most)))] (bp_ret (Mem.le_refl _) (congrArg Bo (?_ : (spanI n most) = ((decide (n ≥ 1)) && (decide (n ≤ most)))).symm))
 rfl
theorem lastBk_con (G : Mem) (vs_c : List Value) (c : ClerkD) (h_c : EClerk.R G vs_c c) (hb : 0 < c.books.length) (hb2 : c.books.length ≤ 1000) : ConP 29 #[.agg vs_c.toArray] G [] (fun u G' L' => ∃ (a1 : Option Addr) (c2 : Nat), u = Sl a1 ((lastB c.books).length) c2 ∧ (RS EEnt G' a1 c2 (lastB c.books)) ∧ L' = []) := by
 obtain ⟨a1, c1, a2, c2, a3, c3, rfl, w1, hs1, w2, w3, w4, hs2, hs3⟩ := h_c
 refine con_of Tryz.func29 11 [(0, .agg #[I c.queue.most, Sl a1 c.queue.wait.length c1, I c.batch, I c.every, I c.now, Sl a2 c.heads.length c2, Sl a3 c.books.length c3])] rfl (fun w0 G0 => ?_)
 refine tc_seq (tc_region ?_)
 refine runL_box 1 #[I c.queue.most, Sl a1 c.queue.wait.length c1, I c.batch, I c.every, I c.now, Sl a2 c.heads.length c2, Sl a3 c.books.length c3] 45 (fun b1 => ?_)
 refine runL_bn [0] [] (runL_nil (tq_then (tc_seq (tc_region ?_))))
 refine runL_bn [0,2,0,2,0,0] [(4, Sl a3 c.books.length c3), (8, I (IntKind.i64.wrap ((c.books.length : Int) - 1)))] ?_
 have e1 : IntKind.i64.wrap ((c.books.length : Int) - 1) = ((c.books.length - 1 : Nat) : Int) := (IntWalk.i64_in _ (by omega)).trans (show (c.books.length : Int) - 1 = ((c.books.length - 1 : Nat) : Int) by omega)
 refine runL_put 8 (I ((c.books.length - 1 : Nat) : Int)) (congrArg I e1) ?_
 clear e1
 obtain ⟨b2, o1, rfl⟩ := RS.addr hs3 (k := c.books.length - 1) (by omega)
 obtain ⟨x1, hx1⟩ := getX (l := c.books) (k := c.books.length - 1) (by omega)
 obtain ⟨_, ⟨a4, c4, rfl, hs4⟩, hc1⟩ := RS.get hs3 hx1
 refine runL_idx (b := b2) (off := o1) (len := c.books.length) (cap := c3) (ik := .i64) 9 25 1 (c.books.length - 1) (by omega) ?_
 refine runL_ldG 10 25 (cs := [Sl a4 x1.length c4]) 0 (Sl a4 x1.length c4) hc1 ?_
 refine runL_bn [0] [(2, Sl a4 x1.length c4)] (runL_nil (tq_then (tc_ret ?_)))
 have hf1 : lastB c.books = x1 := by
  exact (lastB_get rfl hx1).symm
 refine tq_ret [0] [Sl a4 x1.length c4] (bp_rowsA [] (Mem.le_refl _) ?_)
 rw [hf1]
 try dsimp only
 exact ⟨a4, c4, rfl, hs4, rfl⟩
theorem clerkNames_con (G : Mem) (vs_c : List Value) (c : ClerkD) (h_c : EClerk.R G vs_c c) (a_more : Option Addr) (c_more : Nat) (more : List (List UInt8)) (h_more : RS ES G a_more c_more more) (hb : 0 < c.books.length) (hb2 : c.books.length ≤ 1000) (hn1 : (lastB c.books).length ≤ 1000) (hn2 : c.queue.wait.length ≤ 1000) (hn3 : more.length ≤ 1000) : ConV 24 #[.agg vs_c.toArray, Sl a_more more.length c_more] G (I (clerkNames c more)) := by
 obtain ⟨a1, c1, a2, c2, a3, c3, rfl, w1, hs1, w2, w3, w4, hs2, hs3⟩ := h_c
 refine con_of Tryz.func24 49 [(0, .agg #[I c.queue.most, Sl a1 c.queue.wait.length c1, I c.batch, I c.every, I c.now, Sl a2 c.heads.length c2, Sl a3 c.books.length c3]), (1, Sl a_more more.length c_more)] rfl (fun w0 G0 => ?_)
 refine tc_seq (tc_region ?_)
 refine runL_box 2 #[I c.queue.most, Sl a1 c.queue.wait.length c1, I c.batch, I c.every, I c.now, Sl a2 c.heads.length c2, Sl a3 c.books.length c3] 45 (fun b1 => ?_)
 refine runL_bn [0] [] (runL_nil (tq_then (tc_seq (tc_region ?_))))
 refine runL_mkmap 12 9 4 (fun b2 ob1 hm1 => ?_)
 refine runL_bn [0] [(5, .map (some b2))] (runL_nil (tq_then (tc_seq (tc_seq (tc_region ?_)))))
 refine runL_bn [4] [(13, .agg #[I c.queue.most, Sl a1 c.queue.wait.length c1, I c.batch, I c.every, I c.now, Sl a2 c.heads.length c2, Sl a3 c.books.length c3])] ?_
 refine runL_callR 14 (lastBk_con G [I c.queue.most, Sl a1 c.queue.wait.length c1, I c.batch, I c.every, I c.now, Sl a2 c.heads.length c2, Sl a3 c.books.length c3] c (⟨a1, c1, a2, c2, a3, c3, rfl, w1, hs1, w2, w3, w4, hs2, hs3⟩) (by first | assumption | omega) (by first | assumption | omega)) (fun v G1 L1 hl1 hp => ?_)
 obtain ⟨a4, c4, rfl, hs4, rfl⟩ := hp
 refine runL_bn [0,0] [(15, I ((lastB c.books).length : Int)), (16, I 0)] (runL_nil (tq_then (tc_block ?_)))
 have hlm_h_more : more.length ≤ 9223372036854775807 := Nat.le_trans (h_more).le (h_more).max
 have hlm_hs4 : (lastB c.books).length ≤ 9223372036854775807 := Nat.le_trans (hs4).le (hs4).max
 refine tc_loop (σ := Nat × Obj) (fun q_ => (q_.1 ≤ (lastB c.books).length) ∧ (MObj Tryz.prog 9 4 q_.2 q_.1 (Dn (entNames ((lastB c.books).take q_.1))))) (fun q_ => [(1, Sl a_more more.length c_more), (2, Pt b1 0), (5, .map (some b2)), (14, Sl a4 ((lastB c.books).length) c4), (15, I ((lastB c.books).length : Int)), (16, I (q_.1 : Int))]) (fun q_ => G1) (fun q_ => [[Ob b2 q_.2], [Sg b1 0 [I c.queue.most, Sl a1 c.queue.wait.length c1, I c.batch, I c.every, I c.now, Sl a2 c.heads.length c2, Sl a3 c.books.length c3]]]) (fun q_ => (lastB c.books).length - q_.1) (0, ob1) ⟨(by (try dsimp only); first | exact Nat.zero_le _ | omega | simp), (by (try dsimp only); exact hm1)⟩ (fun q_ hs => ?_)
 obtain ⟨i, ob1⟩ := q_
 obtain ⟨hi, hm1⟩ := hs
 dsimp only at hi hm1
 refine tc_eq (fr' := [(1, Sl a_more more.length c_more), (2, Pt b1 0), (5, .map (some b2)), (14, Sl a4 ((lastB c.books).length) c4), (15, I ((lastB c.books).length : Int)), (16, I (i : Int))]) (L' := [[Ob b2 ob1], [Sg b1 0 [I c.queue.most, Sl a1 c.queue.wait.length c1, I c.batch, I c.every, I c.now, Sl a2 c.heads.length c2, Sl a3 c.books.length c3]]]) rfl rfl ?_
 refine tc_rbn [0] [(17, Bo (decide ((i : Int) < ((lastB c.books).length : Int))))] (tc_seq ?_)
 refine tc_condP (decide ((i : Int) < ((lastB c.books).length : Int))) (fun h1 => ?_) (fun h1 => ?_)
 ·
  refine tc_skip (tq_then (tc_seq (tc_block (tc_seq (tc_region ?_)))))
  obtain ⟨b3, o1, rfl⟩ := RS.addr hs4 (k := i) (by omega)
  obtain ⟨x1, hx1⟩ := getX (l := lastB c.books) (k := i) (by omega)
  obtain ⟨_, ⟨rfl, w5, w6⟩, hc1⟩ := RS.get hs4 hx1
  refine runL_idx (b := b3) (off := o1) (len := (lastB c.books).length) (cap := c4) (ik := .i64) 18 58 2 i (by omega) ?_
  refine runL_ldG 19 58 (cs := [Sr x1.name, Sr x1.value]) 0 (.agg #[Sr x1.name, Sr x1.value]) hc1 ?_
  refine runL_box 7 #[Sr ([]), Sr ([])] 58 (fun b4 => ?_)
  refine runL_bsn [3] [] [[Sg b4 0 [Sr x1.name, Sr x1.value]], [Ob b2 ob1], [Sg b1 0 [I c.queue.most, Sl a1 c.queue.wait.length c1, I c.batch, I c.every, I c.now, Sl a2 c.heads.length c2, Sl a3 c.books.length c3]]] (runL_nil (tq_then (tc_region ?_)))
  refine runL_bn [0,0,2] [(20, .map (some b2)), (22, Sr x1.name)] ?_
  refine runL_mset (n := i) (D := Dn (entNames ((lastB c.books).take i))) (s := x1.name) 1 111 9 4 true hm1 (Go.Maps.string_keyed (by kernel_rfl)) (by kernel_rfl) (by kernel_rfl) (by kernel_rfl) (Nat.le_trans w5 (by decide)) (Nat.lt_of_lt_of_le (m := 1000000) (by omega) (by decide)) (fun ob2 hm2 => ?_)
  rw [← Dn_snoc] at hm2
  refine runL_nil (tq_block (tq_then (tc_region ?_)))
  refine runL_bn [0,0] [(16, I (IntKind.i64.wrap ((i : Int) + 1)))] ?_
  refine runL_wi64 16 ((i : Int) + 1) (by omega) ?_
  refine runL_nil ?_
  refine tq_ownsA [[Ob b2 ob2], [Sg b1 0 [I c.queue.most, Sl a1 c.queue.wait.length c1, I c.batch, I c.every, I c.now, Sl a2 c.heads.length c2, Sl a3 c.books.length c3]]] ?_
  exact tq_rnd (i + 1, ob2) ⟨(by omega), (by rw [entNames_next hx1]; exact hm2)⟩ (by (try dsimp only); omega)
 ·
  refine tc_exit (tq_then_exit (tq_rnd_exit (tq_block_here (tq_then (tc_seq ?_)))))
  refine tc_rbn [0,0,4,0,0] [(26, Sl a1 c.queue.wait.length c1), (27, I (c.queue.wait.length : Int)), (28, I 0)] (tc_block ?_)
  have hlm_h_more : more.length ≤ 9223372036854775807 := Nat.le_trans (h_more).le (h_more).max
  have hlm_hs1 : c.queue.wait.length ≤ 9223372036854775807 := Nat.le_trans (hs1).le (hs1).max
  refine tc_loop (σ := Nat × Obj) (fun q_ => (q_.1 ≤ c.queue.wait.length) ∧ (MObj Tryz.prog 9 4 q_.2 ((lastB c.books).length + q_.1) (Dn (entNames (lastB c.books) ++ askNames (c.queue.wait.take q_.1))))) (fun q_ => [(1, Sl a_more more.length c_more), (5, .map (some b2)), (26, Sl a1 c.queue.wait.length c1), (27, I (c.queue.wait.length : Int)), (28, I (q_.1 : Int))]) (fun q_ => G1) (fun q_ => [[Ob b2 q_.2], [Sg b1 0 [I c.queue.most, Sl a1 c.queue.wait.length c1, I c.batch, I c.every, I c.now, Sl a2 c.heads.length c2, Sl a3 c.books.length c3]]]) (fun q_ => c.queue.wait.length - q_.1) (0, ob1) ⟨(by (try dsimp only); first | exact Nat.zero_le _ | omega | simp), (by (try dsimp only); have e_ := List.take_of_length_le (i := i) (l := lastB c.books) (by omega); have e2_ : i = (lastB c.books).length := (by omega); have q_ := hm1; rw [e_] at q_; rw [e2_] at q_; simpa [askNames] using q_)⟩ (fun q_ hs => ?_)
  obtain ⟨j, ob2⟩ := q_
  obtain ⟨hi, hm2⟩ := hs
  dsimp only at hi hm2
  refine tc_eq (fr' := [(1, Sl a_more more.length c_more), (5, .map (some b2)), (26, Sl a1 c.queue.wait.length c1), (27, I (c.queue.wait.length : Int)), (28, I (j : Int))]) (L' := [[Ob b2 ob2], [Sg b1 0 [I c.queue.most, Sl a1 c.queue.wait.length c1, I c.batch, I c.every, I c.now, Sl a2 c.heads.length c2, Sl a3 c.books.length c3]]]) rfl rfl ?_
  refine tc_rbn [0] [(29, Bo (decide ((j : Int) < (c.queue.wait.length : Int))))] (tc_seq ?_)
  refine tc_condP (decide ((j : Int) < (c.queue.wait.length : Int))) (fun h2 => ?_) (fun h2 => ?_)
  ·
   refine tc_skip (tq_then (tc_seq (tc_block (tc_seq (tc_region ?_)))))
   obtain ⟨b5, o2, rfl⟩ := RS.addr (hs1.mono hl1) (k := j) (by omega)
   obtain ⟨x2, hx2⟩ := getX (l := c.queue.wait) (k := j) (by omega)
   obtain ⟨_, ⟨rfl, w7, w8, w9, w10⟩, hc2⟩ := RS.get (hs1.mono hl1) hx2
   refine runL_idx (b := b5) (off := o2) (len := c.queue.wait.length) (cap := c1) (ik := .i64) 30 47 4 j (by omega) ?_
   refine runL_ldG 31 47 (cs := [Sr x2.name, Sr x2.value, U x2.n, U x2.tag]) 0 (.agg #[Sr x2.name, Sr x2.value, U x2.n, U x2.tag]) hc2 ?_
   refine runL_box 9 #[Sr ([]), Sr ([]), U 0, U 0] 47 (fun b6 => ?_)
   refine runL_bsn [3] [] [[Sg b6 0 [Sr x2.name, Sr x2.value, U x2.n, U x2.tag]], [Ob b2 ob2], [Sg b1 0 [I c.queue.most, Sl (At b5 o2) c.queue.wait.length c1, I c.batch, I c.every, I c.now, Sl a2 c.heads.length c2, Sl a3 c.books.length c3]]] (runL_nil (tq_then (tc_region ?_)))
   refine runL_bn [0,0,2] [(32, .map (some b2)), (34, Sr x2.name)] ?_
   refine runL_mset (n := (lastB c.books).length + j) (D := Dn (entNames (lastB c.books) ++ askNames (c.queue.wait.take j))) (s := x2.name) 1 111 9 4 true hm2 (Go.Maps.string_keyed (by kernel_rfl)) (by kernel_rfl) (by kernel_rfl) (by kernel_rfl) (Nat.le_trans w7 (by decide)) (Nat.lt_of_lt_of_le (m := 1000000) (by omega) (by decide)) (fun ob3 hm3 => ?_)
   rw [← Dn_snoc] at hm3
   refine runL_nil (tq_block (tq_then (tc_region ?_)))
   refine runL_bn [0,0] [(28, I (IntKind.i64.wrap ((j : Int) + 1)))] ?_
   refine runL_wi64 28 ((j : Int) + 1) (by omega) ?_
   refine runL_nil ?_
   refine tq_ownsA [[Ob b2 ob3], [Sg b1 0 [I c.queue.most, Sl (At b5 o2) c.queue.wait.length c1, I c.batch, I c.every, I c.now, Sl a2 c.heads.length c2, Sl a3 c.books.length c3]]] ?_
   exact tq_rnd (j + 1, ob3) ⟨(by omega), (by rw [askNames_next hx2, ← List.append_assoc]; exact hm3)⟩ (by (try dsimp only); omega)
  ·
   refine tc_exit (tq_then_exit (tq_rnd_exit (tq_block_here (tq_then (tc_seq ?_)))))
   refine tc_rbn [0,0,0] [(36, Sl a_more more.length c_more), (37, I (more.length : Int)), (38, I 0)] (tc_block ?_)
   have hlm_h_more : more.length ≤ 9223372036854775807 := Nat.le_trans (h_more).le (h_more).max
   refine tc_loop (σ := Nat × Obj) (fun q_ => (q_.1 ≤ more.length) ∧ (MObj Tryz.prog 9 4 q_.2 ((lastB c.books).length + c.queue.wait.length + q_.1) (Dn (entNames (lastB c.books) ++ askNames c.queue.wait ++ more.take q_.1)))) (fun q_ => [(5, .map (some b2)), (36, Sl a_more more.length c_more), (37, I (more.length : Int)), (38, I (q_.1 : Int))]) (fun q_ => G1) (fun q_ => [[Ob b2 q_.2], [Sg b1 0 [I c.queue.most, Sl a1 c.queue.wait.length c1, I c.batch, I c.every, I c.now, Sl a2 c.heads.length c2, Sl a3 c.books.length c3]]]) (fun q_ => more.length - q_.1) (0, ob2) ⟨(by (try dsimp only); first | exact Nat.zero_le _ | omega | simp), (by (try dsimp only); have e_ := List.take_of_length_le (i := j) (l := c.queue.wait) (by omega); have e2_ : j = c.queue.wait.length := (by omega); have q_ := hm2; rw [e_] at q_; rw [e2_] at q_; simpa using q_)⟩ (fun q_ hs => ?_)
   obtain ⟨k, ob3⟩ := q_
   obtain ⟨hi, hm3⟩ := hs
   dsimp only at hi hm3
   refine tc_eq (fr' := [(5, .map (some b2)), (36, Sl a_more more.length c_more), (37, I (more.length : Int)), (38, I (k : Int))]) (L' := [[Ob b2 ob3], [Sg b1 0 [I c.queue.most, Sl a1 c.queue.wait.length c1, I c.batch, I c.every, I c.now, Sl a2 c.heads.length c2, Sl a3 c.books.length c3]]]) rfl rfl ?_
   refine tc_rbn [0] [(39, Bo (decide ((k : Int) < (more.length : Int))))] (tc_seq ?_)
   refine tc_condP (decide ((k : Int) < (more.length : Int))) (fun h3 => ?_) (fun h3 => ?_)
   ·
    refine tc_skip (tq_then (tc_seq (tc_block (tc_seq (tc_region ?_)))))
    obtain ⟨b7, o3, rfl⟩ := RS.addr (h_more.mono hl1) (k := k) (by omega)
    obtain ⟨x3, hx3⟩ := getX (l := more) (k := k) (by omega)
    obtain ⟨_, ⟨rfl, w11⟩, hc3⟩ := RS.get (h_more.mono hl1) hx3
    refine runL_idx (b := b7) (off := o3) (len := more.length) (cap := c_more) (ik := .i64) 40 9 1 k (by omega) ?_
    refine runL_ldG 41 9 (cs := [Sr x3]) 0 (Sr x3) hc3 ?_
    refine runL_bn [0] [(11, Sr x3)] (runL_nil (tq_then (tc_region ?_)))
    refine runL_bn [0,0] [(42, .map (some b2)), (43, Sr x3)] ?_
    refine runL_mset (n := (lastB c.books).length + c.queue.wait.length + k) (D := Dn (entNames (lastB c.books) ++ askNames c.queue.wait ++ more.take k)) (s := x3) 0 111 9 4 true hm3 (Go.Maps.string_keyed (by kernel_rfl)) (by kernel_rfl) (by kernel_rfl) (by kernel_rfl) (Nat.le_trans w11 (by decide)) (Nat.lt_of_lt_of_le (m := 1000000) (by omega) (by decide)) (fun ob4 hm4 => ?_)
    rw [← Dn_snoc] at hm4
    refine runL_nil (tq_block (tq_then (tc_region ?_)))
    refine runL_bn [0,0] [(38, I (IntKind.i64.wrap ((k : Int) + 1)))] ?_
    refine runL_wi64 38 ((k : Int) + 1) (by omega) ?_
    refine runL_nil ?_
    exact tq_rnd (k + 1, ob4) ⟨(by omega), (by rw [txt_next hx3, ← List.append_assoc]; exact hm4)⟩ (by (try dsimp only); omega)
   ·
    refine tc_exit (tq_then_exit (tq_rnd_exit (tq_block_here (tq_then (tc_seq (tc_region ?_))))))
    refine runL_bn [0] [(45, .map (some b2))] ?_
    refine runL_keys (ρ := mapRen) (b := b2) 46 lay_n7 (fun bk1 => ?_)
    refine runL_collect (ρ := mapRen) (b := b2) (bk := bk1) (D := Dn (entNames (lastB c.books) ++ askNames c.queue.wait ++ more.take k)) 47 1 0 lay_n8 lay_n10 hm3 (by rw [(Dn_spec _).2.2]; refine Nat.le_trans (nn_le _) ?_; simp only [List.length_append, entNames_len, askNames_len, List.length_take]; omega) (fun a5 c5 => ?_)
    refine runL_bn [0,0] [(4, I (((strKeys (Dn (entNames (lastB c.books) ++ askNames c.queue.wait ++ more.take k))).length : Nat) : Int))] (runL_nil (tq_then (tc_ret ?_)))
    refine tq_ret [0] [I (((strKeys (Dn (entNames (lastB c.books) ++ askNames c.queue.wait ++ more.take k))).length : Nat) : Int)] (bp_ret hl1 (congrArg I (?_ : (clerkNames c more) = (((strKeys (Dn (entNames (lastB c.books) ++ askNames c.queue.wait ++ more.take k))).length : Nat) : Int)).symm))
    rw [Dn_keys]; unfold clerkNames clerkNs; rw [List.take_of_length_le (i := k) (l := more) (by omega)]
theorem clerkNew_con (G : Mem) (most : Int) (hw_most : -9223372036854775808 ≤ most ∧ most < 9223372036854775808) (batch : Int) (hw_batch : -9223372036854775808 ≤ batch ∧ batch < 9223372036854775808) (every : Int) (hw_every : -9223372036854775808 ≤ every ∧ every < 9223372036854775808)  : ConP 15 #[I most, I batch, I every] G [] (fun u G' L' => ∃ (a1 : Option Addr) (c2 : Nat) (a3 : Option Addr) (c4 : Nat) (a5 : Option Addr) (c6 : Nat), u = .tuple #[.agg #[I (((clerkNew most batch every).1).queue.most), Sl a1 ((((clerkNew most batch every).1).queue.wait).length) c2, I (((clerkNew most batch every).1).batch), I (((clerkNew most batch every).1).every), I (((clerkNew most batch every).1).now), Sl a3 ((((clerkNew most batch every).1).heads).length) c4, Sl a5 ((((clerkNew most batch every).1).books).length) c6], I ((clerkNew most batch every).2)] ∧ (-9223372036854775808 ≤ (((clerkNew most batch every).1).queue.most) ∧ (((clerkNew most batch every).1).queue.most) < 9223372036854775808) ∧ (RS EAsk G' a1 c2 (((clerkNew most batch every).1).queue.wait)) ∧ (-9223372036854775808 ≤ (((clerkNew most batch every).1).batch) ∧ (((clerkNew most batch every).1).batch) < 9223372036854775808) ∧ (-9223372036854775808 ≤ (((clerkNew most batch every).1).every) ∧ (((clerkNew most batch every).1).every) < 9223372036854775808) ∧ (-9223372036854775808 ≤ (((clerkNew most batch every).1).now) ∧ (((clerkNew most batch every).1).now) < 9223372036854775808) ∧ (RS EHead G' a3 c4 (((clerkNew most batch every).1).heads)) ∧ (RS ESlEnt G' a5 c6 (((clerkNew most batch every).1).books)) ∧ L' = []) := by
 refine con_of Tryz.func15 43 [(0, I most), (1, I batch), (2, I every)] rfl (fun w0 G0 => ?_)
 refine tc_seq (tc_region ?_)
 refine runL_box 6 #[I 0, Sl none 0 0, I 0, I 0, I 0, Sl none 0 0, Sl none 0 0] 45 (fun b1 => ?_)
 refine runL_bn [0] [] (runL_nil (tq_then (tc_seq (tc_seq (tc_region ?_)))))
 refine runL_bn [0] [(12, I most)] ?_
 refine runL_callV 13 (Bo (spanI most 30)) (spanI_con G most 30) ?_
 refine runL_bn [0,0] [(15, Bo (!(spanI most 30)))] ?_
 refine runL_casesT [15] (!(spanI most 30)) (fun h1 => ?_) (fun h1 => ?_)
 ·
  refine runL_bn [1,1,1,0,0,1,1,1,0] [(24, Bo true)] (runL_nil (tq_then ?_))
  refine tc_cond_true ?_
  refine tc_rbn [0,3,0] [(7, I 4)] (tc_ret (tq_then_ret ?_))
  have hf1 : clerkNew most batch every = ((⟨(⟨0, []⟩ : QueueD), 0, 0, 0, [], []⟩ : ClerkD), 4) := by
   unfold clerkNew clerkZ; simp_all
  refine tq_ret [0, 0] [.agg #[I 0, Sl none 0 0, I 0, I 0, I 0, Sl none 0 0, Sl none 0 0], I 4] (bp_rowsA [] (Mem.le_refl _) ?_)
  rw [hf1]
  try dsimp only
  exact ⟨none, 0, none, 0, none, 0, rfl, (by first | assumption | omega | (simp; done) | (simp; omega)), (RS.nil' EAsk G), (by first | assumption | omega | (simp; done) | (simp; omega)), (by first | assumption | omega | (simp; done) | (simp; omega)), (by first | assumption | omega | (simp; done) | (simp; omega)), (RS.nil' EHead G), (RS.nil' ESlEnt G), rfl⟩
 ·
  refine runL_bn [0] [(16, I batch)] ?_
  refine runL_callV 17 (Bo (spanI batch 30)) (spanI_con G batch 30) ?_
  refine runL_bn [0,0,0] [(20, Bo (!(spanI batch 30)))] ?_
  refine runL_casesT [20] (!(spanI batch 30)) (fun h2 => ?_) (fun h2 => ?_)
  ·
   refine runL_bn [1,1,1,0] [(24, Bo true)] (runL_nil (tq_then ?_))
   refine tc_cond_true ?_
   refine tc_rbn [0,3,0] [(7, I 4)] (tc_ret (tq_then_ret ?_))
   have hf2 : clerkNew most batch every = ((⟨(⟨0, []⟩ : QueueD), 0, 0, 0, [], []⟩ : ClerkD), 4) := by
    unfold clerkNew clerkZ; simp_all
   refine tq_ret [0, 0] [.agg #[I 0, Sl none 0 0, I 0, I 0, I 0, Sl none 0 0, Sl none 0 0], I 4] (bp_rowsA [] (Mem.le_refl _) ?_)
   rw [hf2]
   try dsimp only
   exact ⟨none, 0, none, 0, none, 0, rfl, (by first | assumption | omega | (simp; done) | (simp; omega)), (RS.nil' EAsk G), (by first | assumption | omega | (simp; done) | (simp; omega)), (by first | assumption | omega | (simp; done) | (simp; omega)), (by first | assumption | omega | (simp; done) | (simp; omega)), (RS.nil' EHead G), (RS.nil' ESlEnt G), rfl⟩
  ·
   refine runL_bn [0] [(21, I every)] ?_
   refine runL_callV 22 (Bo (spanI every 1000)) (spanI_con G every 1000) ?_
   refine runL_bn [0,0] [(24, Bo (!(spanI every 1000)))] (runL_nil (tq_then ?_))
   refine tc_condP (!(spanI every 1000)) (fun h3 => ?_) (fun h3 => ?_)
   ·
    refine tc_rbn [0,3,0] [(7, I 4)] (tc_ret (tq_then_ret ?_))
    have hf3 : clerkNew most batch every = ((⟨(⟨0, []⟩ : QueueD), 0, 0, 0, [], []⟩ : ClerkD), 4) := by
     unfold clerkNew clerkZ; simp_all
    refine tq_ret [0, 0] [.agg #[I 0, Sl none 0 0, I 0, I 0, I 0, Sl none 0 0, Sl none 0 0], I 4] (bp_rowsA [] (Mem.le_refl _) ?_)
    rw [hf3]
    try dsimp only
    exact ⟨none, 0, none, 0, none, 0, rfl, (by first | assumption | omega | (simp; done) | (simp; omega)), (RS.nil' EAsk G), (by first | assumption | omega | (simp; done) | (simp; omega)), (by first | assumption | omega | (simp; done) | (simp; omega)), (by first | assumption | omega | (simp; done) | (simp; omega)), (RS.nil' EHead G), (RS.nil' ESlEnt G), rfl⟩
   ·
    refine tc_skip (tq_then (tc_seq (tc_region ?_)))
    refine runL_callV 27 (.tuple #[U ((treeAtE ([]) []).1), I ((treeAtE ([]) []).2)]) (treeRoot_con G none 0 ([]) (RS.nil' EEnt G)) ?_
    refine runL_bn [0,0,0,0,0] [(8, U ((treeAtE ([]) []).1))] (runL_nil (tq_then (tc_seq (tc_region ?_))))
    refine runL_bn [0] [(31, U ((treeAtE ([]) []).1))] ?_
    refine runL_callV 32 (.tuple #[.agg #[I (((headFirst ((treeAtE ([]) []).1) 0).1).epoch), U (((headFirst ((treeAtE ([]) []).1) 0).1).root), U (((headFirst ((treeAtE ([]) []).1) 0).1).prev), I (((headFirst ((treeAtE ([]) []).1) 0).1).at_)], I ((headFirst ((treeAtE ([]) []).1) 0).2)]) (headFirst_con G ((treeAtE ([]) []).1) (treeAtE_bd _ _) 0 (by first | assumption | omega | (simp; done) | (simp; omega))) ?_
    refine runL_bn [0,0,0] [(33, .agg #[I (((headFirst ((treeAtE ([]) []).1) 0).1).epoch), U (((headFirst ((treeAtE ([]) []).1) 0).1).root), U (((headFirst ((treeAtE ([]) []).1) 0).1).prev), I (((headFirst ((treeAtE ([]) []).1) 0).1).at_)]), (34, I ((headFirst ((treeAtE ([]) []).1) 0).2))] ?_
    refine runL_box 10 #[I 0, U 0, U 0, I 0] 24 (fun b2 => ?_)
    refine runL_bsn [3,0] [] [[Sg b2 0 [I (((headFirst ((treeAtE ([]) []).1) 0).1).epoch), U (((headFirst ((treeAtE ([]) []).1) 0).1).root), U (((headFirst ((treeAtE ([]) []).1) 0).1).prev), I (((headFirst ((treeAtE ([]) []).1) 0).1).at_)]], [Sg b1 0 [I 0, Sl none 0 0, I 0, I 0, I 0, Sl none 0 0, Sl none 0 0]]] (runL_nil (tq_then (tc_seq (tc_region ?_))))
    refine runL_bn [0,0,0,0,2] [(36, .agg #[I most, Sl none 0 0]), (37, I batch), (38, I every), (39, .agg #[I (((headFirst ((treeAtE ([]) []).1) 0).1).epoch), U (((headFirst ((treeAtE ([]) []).1) 0).1).root), U (((headFirst ((treeAtE ([]) []).1) 0).1).prev), I (((headFirst ((treeAtE ([]) []).1) 0).1).at_)])] ?_
    refine runL_bsl 40 1 #[I (((headFirst ((treeAtE ([]) []).1) 0).1).epoch), U (((headFirst ((treeAtE ([]) []).1) 0).1).root), U (((headFirst ((treeAtE ([]) []).1) 0).1).prev), I (((headFirst ((treeAtE ([]) []).1) 0).1).at_)] 24 (fun b3 => ?_)
    refine runL_bsl 41 1 #[Sl none 0 0] 25 (fun b4 => ?_)
    refine runL_bsn [0,9,0] [(7, I 0)] [[Sg b4 0 [Sl none 0 0]], [Sg b3 0 [I (((headFirst ((treeAtE ([]) []).1) 0).1).epoch), U (((headFirst ((treeAtE ([]) []).1) 0).1).root), U (((headFirst ((treeAtE ([]) []).1) 0).1).prev), I (((headFirst ((treeAtE ([]) []).1) 0).1).at_)]], [Sg b2 0 [I (((headFirst ((treeAtE ([]) []).1) 0).1).epoch), U (((headFirst ((treeAtE ([]) []).1) 0).1).root), U (((headFirst ((treeAtE ([]) []).1) 0).1).prev), I (((headFirst ((treeAtE ([]) []).1) 0).1).at_)]], [Sg b1 0 [I most, Sl none 0 0, I batch, I every, I 0, Sl (At b3 0) 1 1, Sl (At b4 0) 1 1]]] (runL_nil (tq_then (tc_ret ?_)))
    refine tq_frz1 (b := b3) (o := 0) (cs := [I (((headFirst ((treeAtE ([]) []).1) 0).1).epoch), U (((headFirst ((treeAtE ([]) []).1) 0).1).root), U (((headFirst ((treeAtE ([]) []).1) 0).1).prev), I (((headFirst ((treeAtE ([]) []).1) 0).1).at_)]) 1 (fun G1 hl1 hz1 => ?_)
    have hs1 : RS EHead G1 (At b3 0) 1 [((headFirst ((treeAtE ([]) []).1) 0).1)] := RS.lit [[I (((headFirst ((treeAtE ([]) []).1) 0).1).epoch), U (((headFirst ((treeAtE ([]) []).1) 0).1).root), U (((headFirst ((treeAtE ([]) []).1) 0).1).prev), I (((headFirst ((treeAtE ([]) []).1) 0).1).at_)]] [((headFirst ((treeAtE ([]) []).1) 0).1)] ⟨⟨rfl, (by have q_ := headFirst_bd (r := (treeAtE [] []).1) (a := 0) (treeAtE_bd _ _) (by omega); omega), (by have q_ := headFirst_bd (r := (treeAtE [] []).1) (a := 0) (treeAtE_bd _ _) (by omega); omega), (by have q_ := headFirst_bd (r := (treeAtE [] []).1) (a := 0) (treeAtE_bd _ _) (by omega); omega), (by have q_ := headFirst_bd (r := (treeAtE [] []).1) (a := 0) (treeAtE_bd _ _) (by omega); omega)⟩, trivial⟩ hz1 (Nat.le_of_ble_eq_true rfl) (Nat.le_of_ble_eq_true rfl)
    refine tq_frz1 (b := b4) (o := 0) (cs := [Sl none 0 0]) 0 (fun G2 hl2 hz2 => ?_)
    have hs2 : RS ESlEnt G2 (At b4 0) 1 [[]] := RS.lit [[Sl none 0 0]] [[]] ⟨⟨none, 0, rfl, (RS.nil' EEnt G2)⟩, trivial⟩ hz2 (Nat.le_of_ble_eq_true rfl) (Nat.le_of_ble_eq_true rfl)
    have hf4 : clerkNew most batch every = ((⟨(⟨most, []⟩ : QueueD), batch, every, 0, [((headFirst ((treeAtE ([]) []).1) 0).1)], [[]]⟩ : ClerkD), 0) := by
     unfold clerkNew clerkZ; simp_all
    refine tq_ret [3, 0] [.agg #[I most, Sl none 0 0, I batch, I every, I 0, Sl (At b3 0) 1 1, Sl (At b4 0) 1 1], I 0] (bp_rowsA [] (Mem.le_trans hl1 hl2) ?_)
    rw [hf4]
    try dsimp only
    exact ⟨none, 0, (At b3 0), 1, (At b4 0), 1, rfl, hw_most, (RS.nil' EAsk G2), hw_batch, hw_every, (by first | assumption | omega | (simp; done) | (simp; omega)), (hs1.mono hl2), hs2, rfl⟩
theorem clerkBooks_con (G : Mem) (vs_c : List Value) (c : ClerkD) (h_c : EClerk.R G vs_c c) (h0 : 1 ≤ c.heads.length) (h9 : c.heads.length ≤ 40) : ConV 51 #[.agg vs_c.toArray] G (I (clerkBooks c)) := by
 obtain ⟨a1, c1, a2, c2, a3, c3, rfl, w1, hs1, w2, w3, w4, hs2, hs3⟩ := h_c
 refine con_of Tryz.func51 63 [(0, .agg #[I c.queue.most, Sl a1 c.queue.wait.length c1, I c.batch, I c.every, I c.now, Sl a2 c.heads.length c2, Sl a3 c.books.length c3])] rfl (fun w0 G0 => ?_)
 refine tc_seq (tc_region ?_)
 refine runL_box 1 #[I c.queue.most, Sl a1 c.queue.wait.length c1, I c.batch, I c.every, I c.now, Sl a2 c.heads.length c2, Sl a3 c.books.length c3] 45 (fun b1 => ?_)
 refine runL_bn [0] [] (runL_nil (tq_then ?_))
 refine tc_rbn [0,2,0,0] [(3, I (c.heads.length : Int))] (tc_seq (tc_seq ?_))
 obtain ⟨b2, o1, rfl⟩ := RS.addr hs2 (k := 0) (by first | omega)
 obtain ⟨x1, hx1⟩ := getX (l := c.heads) (k := 0) (by first | omega)
 obtain ⟨_, ⟨rfl, w5, w6, w7, w8⟩, hc1⟩ := RS.get hs2 hx1
 rcases Bool.eq_false_or_eq_true (!decide (x1.epoch = 0)) with h1 | h1
 ·
  have h1d := h1
  try simp only [BB] at h1d
  refine tc_draw [] ?_
  refine dr_V [(0, Pt b1 5), (1, Sl (At b2 o1) c.heads.length c2), (2, Pt b2 (o1 + 0 * 4)), (3, Pt b2 (o1 + 0 * 4)), (4, I x1.epoch), (5, Bo true), (6, Bo true), (7, undef), (8, undef), (9, undef), (10, undef), (11, undef), (12, Bo true), (13, Bo true), (14, undef), (15, undef), (16, undef), (17, undef), (18, undef), (19, undef), (20, undef), (21, undef), (22, undef), (23, undef), (24, Bo true)] ?_
  refine dr_end [] [(0,0), (1,2), (3,0), (6,0), (7,1), (8,1), (9,1), (10,1), (11,1), (12,0), (13,0), (14,1), (15,1), (16,1), (17,1), (18,1), (19,1), (20,1), (21,1), (22,1), (23,1), (24,0)] [2, 4, 5] [(1, Pt b1 0), (35, Bo true)] (fmc ?_ (fmc ?_ (fmc ?_ fm0))) ?_
  ·
   refine stab_of 2 13 (Pt b2 (o1 + 0 * 4)) [(12, Sl (At b2 o1) c.heads.length c2)] (fun X => ?_)
   exact runL_idx (b := b2) (off := o1) (len := c.heads.length) (cap := c2) (ik := .i64) 13 24 4 0 (by first | omega) stab_end
  ·
   refine stab_of 4 15 (I x1.epoch) [(14, Pt b2 (o1 + 0 * 4))] (fun X => ?_)
   exact runL_ldG 15 2 (cs := [I x1.epoch, U x1.root, U x1.prev, I x1.at_]) 0 (I x1.epoch) hc1 stab_end
  ·
   refine stab_of 5 16 (Bo true) [(15, I x1.epoch)] (fun X => ?_)
   exact runL_p1 16 (Bo (!decide (x1.epoch = 0))) (Bo true) (by rw [h1]) stab_end
  refine tq_then ?_
  refine tc_cond_true ?_
  refine tc_rbn [0] [(2, I 3)] (tc_ret (tq_then_ret ?_))
  refine tq_ret [0] [I 3] (bp_ret (Mem.le_refl _) (congrArg I (?_ : (clerkBooks c) = 3).symm))
  first | exact bk_bad (.inl ⟨hx1, by assumption⟩) | exact bk_bad (x := headZ) (.inr (.inl (by assumption))) | exact bk_bad (x := headZ) (.inr (.inr ⟨_, hx2, by omega⟩)) | (rw [bk_go hx1 (by assumption) (by assumption) hx2 (by omega), hn]; first | exact booksE_at1 hx3 (by assumption) | exact booksE_at2 hx3 hx4 (by assumption) (by assumption) | (have e_ : c.books.drop i = [] := List.drop_eq_nil_of_le (by omega); rw [e_]; simp [booksE]))
 ·
  have h1d := h1
  try simp only [BB] at h1d
  rcases Bool.eq_false_or_eq_true (!decide ((c.books.length : Int) = (c.heads.length : Int))) with h2 | h2
  ·
   have h2d := h2
   try simp only [BB] at h2d
   refine tc_draw [] ?_
   refine dr_V [(0, Pt b1 5), (1, Sl (At b2 o1) c.heads.length c2), (2, Pt b2 (o1 + 0 * 4)), (3, Pt b2 (o1 + 0 * 4)), (4, I x1.epoch), (5, Bo false), (6, Bo false), (7, Pt b1 6), (8, Sl a3 c.books.length c3), (9, I (c.books.length : Int)), (10, I (c.heads.length : Int)), (11, Bo true), (12, Bo true), (13, Bo true), (14, undef), (15, undef), (16, undef), (17, undef), (18, undef), (19, undef), (20, undef), (21, undef), (22, undef), (23, undef), (24, Bo true)] ?_
   refine dr_end [] [(0,0), (1,2), (3,0), (6,0), (7,0), (8,2), (9,0), (10,0), (12,0), (13,0), (14,1), (15,1), (16,1), (17,1), (18,1), (19,1), (20,1), (21,1), (22,1), (23,1), (24,0)] [2, 4, 5, 11] [(1, Pt b1 0), (35, Bo true)] (fmc ?_ (fmc ?_ (fmc ?_ (fmc ?_ fm0)))) ?_
   ·
    refine stab_of 2 13 (Pt b2 (o1 + 0 * 4)) [(12, Sl (At b2 o1) c.heads.length c2)] (fun X => ?_)
    exact runL_idx (b := b2) (off := o1) (len := c.heads.length) (cap := c2) (ik := .i64) 13 24 4 0 (by first | omega) stab_end
   ·
    refine stab_of 4 15 (I x1.epoch) [(14, Pt b2 (o1 + 0 * 4))] (fun X => ?_)
    exact runL_ldG 15 2 (cs := [I x1.epoch, U x1.root, U x1.prev, I x1.at_]) 0 (I x1.epoch) hc1 stab_end
   ·
    refine stab_of 5 16 (Bo false) [(15, I x1.epoch)] (fun X => ?_)
    exact runL_p1 16 (Bo (!decide (x1.epoch = 0))) (Bo false) (by rw [h1]) stab_end
   ·
    refine stab_of 11 22 (Bo true) [(17, Bo false), (20, I (c.books.length : Int)), (21, I (c.heads.length : Int))] (fun X => ?_)
    exact runL_p1 22 (Bo (!decide ((c.books.length : Int) = (c.heads.length : Int)))) (Bo true) (by rw [h2]) stab_end
   refine tq_then ?_
   refine tc_cond_true ?_
   refine tc_rbn [0] [(2, I 3)] (tc_ret (tq_then_ret ?_))
   refine tq_ret [0] [I 3] (bp_ret (Mem.le_refl _) (congrArg I (?_ : (clerkBooks c) = 3).symm))
   first | exact bk_bad (.inl ⟨hx1, by assumption⟩) | exact bk_bad (x := headZ) (.inr (.inl (by assumption))) | exact bk_bad (x := headZ) (.inr (.inr ⟨_, hx2, by omega⟩)) | (rw [bk_go hx1 (by assumption) (by assumption) hx2 (by omega), hn]; first | exact booksE_at1 hx3 (by assumption) | exact booksE_at2 hx3 hx4 (by assumption) (by assumption) | (have e_ : c.books.drop i = [] := List.drop_eq_nil_of_le (by omega); rw [e_]; simp [booksE]))
  ·
   have h2d := h2
   try simp only [BB] at h2d
   have e1 : IntKind.i64.wrap ((c.heads.length : Int) - 1) = ((c.heads.length - 1 : Nat) : Int) := (IntWalk.i64_in _ (by first | omega)).trans (show (c.heads.length : Int) - 1 = ((c.heads.length - 1 : Nat) : Int) by omega)
   obtain ⟨x2, hx2⟩ := getX (l := c.heads) (k := c.heads.length - 1) (by first | omega)
   obtain ⟨_, ⟨rfl, w9, w10, w11, w12⟩, hc2⟩ := RS.get hs2 hx2
   refine tc_draw [] ?_
   refine dr_V [(0, Pt b1 5), (1, Sl (At b2 o1) c.heads.length c2), (2, Pt b2 (o1 + 0 * 4)), (3, Pt b2 (o1 + 0 * 4)), (4, I x1.epoch), (5, Bo false), (6, Bo false), (7, Pt b1 6), (8, Sl a3 c.books.length c3), (9, I (c.books.length : Int)), (10, I (c.heads.length : Int)), (11, Bo false), (12, Bo false), (13, Bo false), (14, Pt b1 5), (15, Sl (At b2 o1) c.heads.length c2), (16, I (c.heads.length : Int)), (17, I ((c.heads.length - 1 : Nat) : Int)), (18, Pt b2 (o1 + (c.heads.length - 1) * 4)), (19, Pt b2 (o1 + (c.heads.length - 1) * 4 + 3)), (20, I x2.at_), (21, Pt b1 4), (22, I c.now), (23, Bo (decide (x2.at_ > c.now))), (24, Bo (decide (x2.at_ > c.now)))] ?_
   refine dr_end [] [(0,0), (1,2), (3,0), (6,0), (7,0), (8,2), (9,0), (10,0), (12,0), (13,0), (14,0), (15,2), (16,0), (19,0), (21,0), (22,2), (23,0), (24,0)] [2, 4, 5, 11, 17, 18, 20] [(1, Pt b1 0), (35, Bo (decide (x2.at_ > c.now)))] (fmc ?_ (fmc ?_ (fmc ?_ (fmc ?_ (fmc ?_ (fmc ?_ (fmc ?_ fm0))))))) ?_
   ·
    refine stab_of 2 13 (Pt b2 (o1 + 0 * 4)) [(12, Sl (At b2 o1) c.heads.length c2)] (fun X => ?_)
    exact runL_idx (b := b2) (off := o1) (len := c.heads.length) (cap := c2) (ik := .i64) 13 24 4 0 (by first | omega) stab_end
   ·
    refine stab_of 4 15 (I x1.epoch) [(14, Pt b2 (o1 + 0 * 4))] (fun X => ?_)
    exact runL_ldG 15 2 (cs := [I x1.epoch, U x1.root, U x1.prev, I x1.at_]) 0 (I x1.epoch) hc1 stab_end
   ·
    refine stab_of 5 16 (Bo false) [(15, I x1.epoch)] (fun X => ?_)
    exact runL_p1 16 (Bo (!decide (x1.epoch = 0))) (Bo false) (by rw [h1]) stab_end
   ·
    refine stab_of 11 22 (Bo false) [(17, Bo false), (20, I (c.books.length : Int)), (21, I (c.heads.length : Int))] (fun X => ?_)
    exact runL_p1 22 (Bo (!decide ((c.books.length : Int) = (c.heads.length : Int)))) (Bo false) (by rw [h2]) stab_end
   ·
    refine stab_of 17 28 (I ((c.heads.length - 1 : Nat) : Int)) [(24, Bo false), (27, I (c.heads.length : Int))] (fun X => ?_)
    exact runL_p1 28 (I (IntKind.i64.wrap ((c.heads.length : Int) - 1))) (I ((c.heads.length - 1 : Nat) : Int)) (by simp only [e1]) stab_end
   ·
    refine stab_of 18 29 (Pt b2 (o1 + (c.heads.length - 1) * 4)) [(24, Bo false), (26, Sl (At b2 o1) c.heads.length c2), (28, I ((c.heads.length - 1 : Nat) : Int))] (fun X => ?_)
    exact runL_idx (b := b2) (off := o1) (len := c.heads.length) (cap := c2) (ik := .i64) 29 24 4 (c.heads.length - 1) (by first | omega) stab_end
   ·
    refine stab_of 20 31 (I x2.at_) [(24, Bo false), (30, Pt b2 (o1 + (c.heads.length - 1) * 4 + 3))] (fun X => ?_)
    exact runL_ldG 31 2 (cs := [I x2.epoch, U x2.root, U x2.prev, I x2.at_]) 3 (I x2.at_) hc2 stab_end
   refine tq_then ?_
   refine tc_condP (decide (x2.at_ > c.now)) (fun h3 => ?_) (fun h3 => ?_)
   ·
    refine tc_rbn [0] [(2, I 3)] (tc_ret (tq_then_ret ?_))
    refine tq_ret [0] [I 3] (bp_ret (Mem.le_refl _) (congrArg I (?_ : (clerkBooks c) = 3).symm))
    first | exact bk_bad (.inl ⟨hx1, by assumption⟩) | exact bk_bad (x := headZ) (.inr (.inl (by assumption))) | exact bk_bad (x := headZ) (.inr (.inr ⟨_, hx2, by omega⟩)) | (rw [bk_go hx1 (by assumption) (by assumption) hx2 (by omega), hn]; first | exact booksE_at1 hx3 (by assumption) | exact booksE_at2 hx3 hx4 (by assumption) (by assumption) | (have e_ : c.books.drop i = [] := List.drop_eq_nil_of_le (by omega); rw [e_]; simp [booksE]))
   ·
    refine tc_skip (tq_then (tc_seq ?_))
    refine tc_rbn [0,2,0,0] [(37, Sl a3 c.books.length c3), (38, I (c.books.length : Int)), (39, I 0)] (tc_block ?_)
    have hlm_hs3 : c.books.length ≤ 9223372036854775807 := Nat.le_trans (hs3).le (hs3).max
    refine tc_loop (σ := Nat) (fun q_ => (q_ ≤ c.books.length) ∧ (booksE c.heads c.books = booksE (c.heads.drop q_) (c.books.drop q_))) (fun q_ => [(1, Pt b1 0), (37, Sl a3 c.books.length c3), (38, I (c.books.length : Int)), (39, I (q_ : Int))]) (fun q_ => G) (fun q_ => [[Sg b1 0 [I c.queue.most, Sl a1 c.queue.wait.length c1, I c.batch, I c.every, I c.now, Sl (At b2 o1) c.heads.length c2, Sl a3 c.books.length c3]]]) (fun q_ => c.books.length - q_) 0 ⟨(by (try dsimp only); first | exact Nat.zero_le _ | omega | simp), rfl⟩ (fun q_ hs => ?_)
    revert hs; revert q_; intro i hs
    obtain ⟨hi, hn⟩ := hs
    refine tc_eq (fr' := [(1, Pt b1 0), (37, Sl a3 c.books.length c3), (38, I (c.books.length : Int)), (39, I (i : Int))]) (L' := [[Sg b1 0 [I c.queue.most, Sl a1 c.queue.wait.length c1, I c.batch, I c.every, I c.now, Sl (At b2 o1) c.heads.length c2, Sl a3 c.books.length c3]]]) rfl rfl ?_
    refine tc_rbn [0] [(40, Bo (decide ((i : Int) < (c.books.length : Int))))] (tc_seq ?_)
    refine tc_condP (decide ((i : Int) < (c.books.length : Int))) (fun h4 => ?_) (fun h4 => ?_)
    ·
     refine tc_skip (tq_then (tc_seq (tc_block (tc_seq (tc_region ?_)))))
     refine runL_bn [0] [(41, I (i : Int))] ?_
     obtain ⟨b3, o2, rfl⟩ := RS.addr hs3 (k := i) (by first | omega)
     obtain ⟨x3, hx3⟩ := getX (l := c.books) (k := i) (by first | omega)
     obtain ⟨_, ⟨a4, c4, rfl, hs4⟩, hc3⟩ := RS.get hs3 hx3
     refine runL_idx (b := b3) (off := o2) (len := c.books.length) (cap := c3) (ik := .i64) 42 25 1 i (by first | omega) ?_
     refine runL_ldG 43 25 (cs := [Sl a4 x3.length c4]) 0 (Sl a4 x3.length c4) hc3 ?_
     refine runL_bn [0,0] [(4, I (i : Int)), (5, Sl a4 x3.length c4)] (runL_nil (tq_then (tc_seq (tc_region ?_))))
     refine runL_bn [0] [(45, Sl a4 x3.length c4)] ?_
     refine runL_callV 46 (.tuple #[U ((treeAtE x3 []).1), I ((treeAtE x3 []).2)]) (treeRoot_con G a4 c4 x3 hs4) ?_
     refine runL_bn [0,0,0,0,0] [(6, U ((treeAtE x3 []).1)), (7, I ((treeAtE x3 []).2))] (runL_nil (tq_then (tc_block ?_)))
     refine tc_rbn [0,0,0] [(49, Bo (!decide ((treeAtE x3 []).2 = 0)))] ?_
     refine tc_condP (!decide ((treeAtE x3 []).2 = 0)) (fun h5 => ?_) (fun h5 => ?_)
     ·
      refine tc_rbn [0,0] [(2, I ((treeAtE x3 []).2))] (tc_ret (tq_block_ret (tq_block_ret (tq_then_ret (tq_rnd_ret (tq_block_ret (tq_then_ret ?_)))))))
      refine tq_ret [0] [I ((treeAtE x3 []).2)] (bp_ret (Mem.le_refl _) (congrArg I (?_ : (clerkBooks c) = ((treeAtE x3 []).2)).symm))
      first | exact bk_bad (.inl ⟨hx1, by assumption⟩) | exact bk_bad (x := headZ) (.inr (.inl (by assumption))) | exact bk_bad (x := headZ) (.inr (.inr ⟨_, hx2, by omega⟩)) | (rw [bk_go hx1 (by assumption) (by assumption) hx2 (by omega), hn]; first | exact booksE_at1 hx3 (by assumption) | exact booksE_at2 hx3 hx4 (by assumption) (by assumption) | (have e_ : c.books.drop i = [] := List.drop_eq_nil_of_le (by omega); rw [e_]; simp [booksE]))
     ·
      refine tc_seq (tc_region ?_)
      refine runL_bn [0,0,2,0] [(54, U ((treeAtE x3 []).1)), (56, Sl (At b2 o1) c.heads.length c2), (57, I (i : Int))] ?_
      obtain ⟨x4, hx4⟩ := getX (l := c.heads) (k := i) (by first | omega)
      obtain ⟨_, ⟨rfl, w13, w14, w15, w16⟩, hc4⟩ := RS.get hs2 hx4
      refine runL_idx (b := b2) (off := o1) (len := c.heads.length) (cap := c2) (ik := .i64) 58 24 4 i (by first | omega) ?_
      refine runL_bn [0] [(59, Pt b2 (o1 + i * 4 + 1))] ?_
      refine runL_ldG 60 22 (cs := [I x4.epoch, U x4.root, U x4.prev, I x4.at_]) 1 (U x4.root) hc4 ?_
      refine runL_bn [0,0] [(53, Bo (!decide ((treeAtE x3 []).1 = x4.root)))] (runL_nil (tq_then ?_))
      refine tc_condP (!decide ((treeAtE x3 []).1 = x4.root)) (fun h6 => ?_) (fun h6 => ?_)
      ·
       refine tc_rbn [0] [(2, I 8)] (tc_ret (tq_block_ret (tq_block_ret (tq_then_ret (tq_rnd_ret (tq_block_ret (tq_then_ret ?_)))))))
       refine tq_ret [0] [I 8] (bp_ret (Mem.le_refl _) (congrArg I (?_ : (clerkBooks c) = 8).symm))
       first | exact bk_bad (.inl ⟨hx1, by assumption⟩) | exact bk_bad (x := headZ) (.inr (.inl (by assumption))) | exact bk_bad (x := headZ) (.inr (.inr ⟨_, hx2, by omega⟩)) | (rw [bk_go hx1 (by assumption) (by assumption) hx2 (by omega), hn]; first | exact booksE_at1 hx3 (by assumption) | exact booksE_at2 hx3 hx4 (by assumption) (by assumption) | (have e_ : c.books.drop i = [] := List.drop_eq_nil_of_le (by omega); rw [e_]; simp [booksE]))
      ·
       refine tc_skip (tq_block (tq_block (tq_then (tc_region ?_))))
       refine runL_bn [0,0] [(39, I (IntKind.i64.wrap ((i : Int) + 1)))] ?_
       refine runL_wi64 39 ((i : Int) + 1) (by first | omega) ?_
       refine runL_nil ?_
       exact tq_rnd (i + 1) ⟨(by omega), (by rw [hn]; exact booksE_step hx3 hx4 (by assumption) (by assumption))⟩ (by (try dsimp only); omega)
    ·
     refine tc_exit (tq_then_exit (tq_rnd_exit (tq_block_here (tq_then ?_))))
     refine tc_rbn [0] [(2, I 0)] (tc_ret ?_)
     refine tq_ret [0] [I 0] (bp_ret (Mem.le_refl _) (congrArg I (?_ : (clerkBooks c) = 0).symm))
     first | exact bk_bad (.inl ⟨hx1, by assumption⟩) | exact bk_bad (x := headZ) (.inr (.inl (by assumption))) | exact bk_bad (x := headZ) (.inr (.inr ⟨_, hx2, by omega⟩)) | (rw [bk_go hx1 (by assumption) (by assumption) hx2 (by omega), hn]; first | exact booksE_at1 hx3 (by assumption) | exact booksE_at2 hx3 hx4 (by assumption) (by assumption) | (have e_ : c.books.drop i = [] := List.drop_eq_nil_of_le (by omega); rw [e_]; simp [booksE]))
theorem clerkCheck_con (G : Mem) (vs_c : List Value) (c : ClerkD) (h_c : EClerk.R G vs_c c)  : ConV 21 #[.agg vs_c.toArray] G (I (clerkCheck c)) := by
 obtain ⟨a1, c1, a2, c2, a3, c3, rfl, w1, hs1, w2, w3, w4, hs2, hs3⟩ := h_c
 refine con_of Tryz.func21 50 [(0, .agg #[I c.queue.most, Sl a1 c.queue.wait.length c1, I c.batch, I c.every, I c.now, Sl a2 c.heads.length c2, Sl a3 c.books.length c3])] rfl (fun w0 G0 => ?_)
 refine tc_seq (tc_region ?_)
 refine runL_box 1 #[I c.queue.most, Sl a1 c.queue.wait.length c1, I c.batch, I c.every, I c.now, Sl a2 c.heads.length c2, Sl a3 c.books.length c3] 45 (fun b1 => ?_)
 refine runL_bn [0] [] (runL_nil (tq_then (tc_seq (tc_seq (tc_region ?_)))))
 refine runL_bn [0,2] [(8, .agg #[I c.queue.most, Sl a1 c.queue.wait.length c1])] ?_
 refine runL_callV 9 (I (queueCheck c.queue)) (queueCheck_con G [I c.queue.most, Sl a1 c.queue.wait.length c1] c.queue (⟨a1, c1, rfl, w1, hs1⟩)) ?_
 refine runL_bn [0] [(3, I (queueCheck c.queue))] (runL_nil (tq_then ?_))
 refine tc_rbn [0,0] [(11, Bo (!decide (queueCheck c.queue = 0)))] ?_
 refine tc_condP (!decide (queueCheck c.queue = 0)) (fun h1 => ?_) (fun h1 => ?_)
 ·
  refine tc_rbn [0,0] [(2, I (queueCheck c.queue))] (tc_ret (tq_then_ret ?_))
  refine tq_ret [0] [I (queueCheck c.queue)] (bp_ret (Mem.le_refl _) (congrArg I (?_ : (clerkCheck c) = (queueCheck c.queue)).symm))
  unfold clerkCheck; first | (rw [if_pos (by assumption)]; done) | (rw [if_neg (by simp_all)]; first | (rw [if_pos (by first | (simp_all; done) | (simp_all; grind))]; done) | (rw [if_neg (by simp_all)]; first | (rw [if_pos (by first | (simp_all; done) | (simp_all; grind))]; done) | (rw [if_neg (by simp_all)]; first | (rw [if_pos (by first | (simp_all; done) | (simp_all; grind))]; done) | (rw [if_neg (by simp_all)]; first | (rw [if_pos (by first | (simp_all; done) | (simp_all; grind))]; done) | (rw [if_neg (by simp_all)]; done)))))
 ·
  refine tc_skip (tq_then (tc_seq (tc_seq (tc_region ?_))))
  refine runL_bn [0,2] [(14, I c.batch)] ?_
  refine runL_callV 15 (Bo (spanI c.batch 30)) (spanI_con G c.batch 30) ?_
  refine runL_bn [0,0] [(17, Bo (!(spanI c.batch 30)))] ?_
  refine runL_casesT [17] (!(spanI c.batch 30)) (fun h2 => ?_) (fun h2 => ?_)
  ·
   refine runL_bn [1,1,1,1,0,0,1,1,1,0,0,1,1,1,0] [(32, Bo true)] (runL_nil (tq_then ?_))
   refine tc_cond_true ?_
   refine tc_rbn [0] [(2, I 4)] (tc_ret (tq_then_ret ?_))
   refine tq_ret [0] [I 4] (bp_ret (Mem.le_refl _) (congrArg I (?_ : (clerkCheck c) = 4).symm))
   unfold clerkCheck; first | (rw [if_pos (by assumption)]; done) | (rw [if_neg (by simp_all)]; first | (rw [if_pos (by first | (simp_all; done) | (simp_all; grind))]; done) | (rw [if_neg (by simp_all)]; first | (rw [if_pos (by first | (simp_all; done) | (simp_all; grind))]; done) | (rw [if_neg (by simp_all)]; first | (rw [if_pos (by first | (simp_all; done) | (simp_all; grind))]; done) | (rw [if_neg (by simp_all)]; first | (rw [if_pos (by first | (simp_all; done) | (simp_all; grind))]; done) | (rw [if_neg (by simp_all)]; done)))))
  ·
   refine runL_bn [0,2] [(19, I c.every)] ?_
   refine runL_callV 20 (Bo (spanI c.every 1000)) (spanI_con G c.every 1000) ?_
   refine runL_bn [0,0,0] [(23, Bo (!(spanI c.every 1000)))] ?_
   refine runL_b2n (!(spanI c.every 1000)) [23] [1,1,1,0] [0,2,0,0] (fun bb => [(27, Bo (bb || (decide (c.now < 0))))]) ?_
   refine runL_bn [0] [(28, Bo ((!(spanI c.every 1000)) || (decide (c.now < 0))))] ?_
   refine runL_b2n ((!(spanI c.every 1000)) || (decide (c.now < 0))) [28] [1,1,1,0] [0,2,0,0] (fun bb => [(32, Bo (bb || (decide (c.now > 1000000000))))]) ?_
   refine runL_nil (tq_then ?_)
   refine tc_condP (((!(spanI c.every 1000)) || (decide (c.now < 0))) || (decide (c.now > 1000000000))) (fun h3 => ?_) (fun h3 => ?_)
   ·
    refine tc_rbn [0] [(2, I 4)] (tc_ret (tq_then_ret ?_))
    refine tq_ret [0] [I 4] (bp_ret (Mem.le_refl _) (congrArg I (?_ : (clerkCheck c) = 4).symm))
    unfold clerkCheck; first | (rw [if_pos (by assumption)]; done) | (rw [if_neg (by simp_all)]; first | (rw [if_pos (by first | (simp_all; done) | (simp_all; grind))]; done) | (rw [if_neg (by simp_all)]; first | (rw [if_pos (by first | (simp_all; done) | (simp_all; grind))]; done) | (rw [if_neg (by simp_all)]; first | (rw [if_pos (by first | (simp_all; done) | (simp_all; grind))]; done) | (rw [if_neg (by simp_all)]; first | (rw [if_pos (by first | (simp_all; done) | (simp_all; grind))]; done) | (rw [if_neg (by simp_all)]; done)))))
   ·
    refine tc_skip (tq_then (tc_seq (tc_seq (tc_region ?_))))
    refine runL_bn [0,2] [(35, Sl a2 c.heads.length c2)] ?_
    refine runL_callV 36 (.tuple #[I ((chainCheck c.heads).1), I ((chainCheck c.heads).2)]) (chainCheck_con G a2 c2 c.heads hs2) ?_
    refine runL_bn [0,0,0,0,0] [(4, I ((chainCheck c.heads).1))] (runL_nil (tq_then ?_))
    refine tc_rbn [0,0] [(40, Bo (!decide ((chainCheck c.heads).1 = 0)))] ?_
    refine tc_condP (!decide ((chainCheck c.heads).1 = 0)) (fun h4 => ?_) (fun h4 => ?_)
    ·
     refine tc_rbn [0,0] [(2, I ((chainCheck c.heads).1))] (tc_ret (tq_then_ret ?_))
     refine tq_ret [0] [I ((chainCheck c.heads).1)] (bp_ret (Mem.le_refl _) (congrArg I (?_ : (clerkCheck c) = ((chainCheck c.heads).1)).symm))
     unfold clerkCheck; first | (rw [if_pos (by assumption)]; done) | (rw [if_neg (by simp_all)]; first | (rw [if_pos (by first | (simp_all; done) | (simp_all; grind))]; done) | (rw [if_neg (by simp_all)]; first | (rw [if_pos (by first | (simp_all; done) | (simp_all; grind))]; done) | (rw [if_neg (by simp_all)]; first | (rw [if_pos (by first | (simp_all; done) | (simp_all; grind))]; done) | (rw [if_neg (by simp_all)]; first | (rw [if_pos (by first | (simp_all; done) | (simp_all; grind))]; done) | (rw [if_neg (by simp_all)]; done)))))
    ·
     refine tc_skip (tq_then (tc_seq (tc_seq (tc_region ?_))))
     refine runL_bn [2] [(42, .agg #[I c.queue.most, Sl a1 c.queue.wait.length c1, I c.batch, I c.every, I c.now, Sl a2 c.heads.length c2, Sl a3 c.books.length c3])] ?_
     refine runL_callV 43 (I (clerkBooks c)) (clerkBooks_con G [I c.queue.most, Sl a1 c.queue.wait.length c1, I c.batch, I c.every, I c.now, Sl a2 c.heads.length c2, Sl a3 c.books.length c3] c (⟨a1, c1, a2, c2, a3, c3, rfl, w1, hs1, w2, w3, w4, hs2, hs3⟩) (by first | assumption | omega | (have q_ := chainCheck_iff.1 (by assumption); have q1_ := q_.len1; have q2_ := q_.len; omega) | (obtain ⟨q1_, q2_, q3_, q4_⟩ := checked (c := c) (by assumption) (by assumption) (by assumption); first | assumption | omega) | (simp; done)) (by first | assumption | omega | (have q_ := chainCheck_iff.1 (by assumption); have q1_ := q_.len1; have q2_ := q_.len; omega) | (obtain ⟨q1_, q2_, q3_, q4_⟩ := checked (c := c) (by assumption) (by assumption) (by assumption); first | assumption | omega) | (simp; done))) ?_
     refine runL_bn [0] [(6, I (clerkBooks c))] (runL_nil (tq_then ?_))
     refine tc_rbn [0,0] [(45, Bo (!decide (clerkBooks c = 0)))] ?_
     refine tc_condP (!decide (clerkBooks c = 0)) (fun h5 => ?_) (fun h5 => ?_)
     ·
      refine tc_rbn [0,0] [(2, I (clerkBooks c))] (tc_ret (tq_then_ret ?_))
      refine tq_ret [0] [I (clerkBooks c)] (bp_ret (Mem.le_refl _) (congrArg I (?_ : (clerkCheck c) = (clerkBooks c)).symm))
      unfold clerkCheck; first | (rw [if_pos (by assumption)]; done) | (rw [if_neg (by simp_all)]; first | (rw [if_pos (by first | (simp_all; done) | (simp_all; grind))]; done) | (rw [if_neg (by simp_all)]; first | (rw [if_pos (by first | (simp_all; done) | (simp_all; grind))]; done) | (rw [if_neg (by simp_all)]; first | (rw [if_pos (by first | (simp_all; done) | (simp_all; grind))]; done) | (rw [if_neg (by simp_all)]; first | (rw [if_pos (by first | (simp_all; done) | (simp_all; grind))]; done) | (rw [if_neg (by simp_all)]; done)))))
     ·
      refine tc_skip (tq_then (tc_seq (tc_seq (tc_region ?_))))
      refine runL_bn [2] [(47, .agg #[I c.queue.most, Sl a1 c.queue.wait.length c1, I c.batch, I c.every, I c.now, Sl a2 c.heads.length c2, Sl a3 c.books.length c3])] ?_
      refine runL_callV 48 (I (clerkNames c ([]))) (clerkNames_con G [I c.queue.most, Sl a1 c.queue.wait.length c1, I c.batch, I c.every, I c.now, Sl a2 c.heads.length c2, Sl a3 c.books.length c3] c (⟨a1, c1, a2, c2, a3, c3, rfl, w1, hs1, w2, w3, w4, hs2, hs3⟩) none 0 ([]) (RS.nil' ES G) (by first | assumption | omega | (have q_ := chainCheck_iff.1 (by assumption); have q1_ := q_.len1; have q2_ := q_.len; omega) | (obtain ⟨q1_, q2_, q3_, q4_⟩ := checked (c := c) (by assumption) (by assumption) (by assumption); first | assumption | omega) | (simp; done)) (by first | assumption | omega | (have q_ := chainCheck_iff.1 (by assumption); have q1_ := q_.len1; have q2_ := q_.len; omega) | (obtain ⟨q1_, q2_, q3_, q4_⟩ := checked (c := c) (by assumption) (by assumption) (by assumption); first | assumption | omega) | (simp; done)) (by first | assumption | omega | (have q_ := chainCheck_iff.1 (by assumption); have q1_ := q_.len1; have q2_ := q_.len; omega) | (obtain ⟨q1_, q2_, q3_, q4_⟩ := checked (c := c) (by assumption) (by assumption) (by assumption); first | assumption | omega) | (simp; done)) (by first | assumption | omega | (have q_ := chainCheck_iff.1 (by assumption); have q1_ := q_.len1; have q2_ := q_.len; omega) | (obtain ⟨q1_, q2_, q3_, q4_⟩ := checked (c := c) (by assumption) (by assumption) (by assumption); first | assumption | omega) | (simp; done)) (by first | assumption | omega | (have q_ := chainCheck_iff.1 (by assumption); have q1_ := q_.len1; have q2_ := q_.len; omega) | (obtain ⟨q1_, q2_, q3_, q4_⟩ := checked (c := c) (by assumption) (by assumption) (by assumption); first | assumption | omega) | (simp; done))) ?_
      refine runL_bn [0] [(49, Bo (decide (clerkNames c ([]) > 24)))] (runL_nil (tq_then ?_))
      refine tc_condP (decide (clerkNames c ([]) > 24)) (fun h6 => ?_) (fun h6 => ?_)
      ·
       refine tc_rbn [0] [(2, I 7)] (tc_ret (tq_then_ret ?_))
       refine tq_ret [0] [I 7] (bp_ret (Mem.le_refl _) (congrArg I (?_ : (clerkCheck c) = 7).symm))
       unfold clerkCheck; first | (rw [if_pos (by assumption)]; done) | (rw [if_neg (by simp_all)]; first | (rw [if_pos (by first | (simp_all; done) | (simp_all; grind))]; done) | (rw [if_neg (by simp_all)]; first | (rw [if_pos (by first | (simp_all; done) | (simp_all; grind))]; done) | (rw [if_neg (by simp_all)]; first | (rw [if_pos (by first | (simp_all; done) | (simp_all; grind))]; done) | (rw [if_neg (by simp_all)]; first | (rw [if_pos (by first | (simp_all; done) | (simp_all; grind))]; done) | (rw [if_neg (by simp_all)]; done)))))
      ·
       refine tc_skip (tq_then ?_)
       refine tc_rbn [0] [(2, I 0)] (tc_ret ?_)
       refine tq_ret [0] [I 0] (bp_ret (Mem.le_refl _) (congrArg I (?_ : (clerkCheck c) = 0).symm))
       unfold clerkCheck; first | (rw [if_pos (by assumption)]; done) | (rw [if_neg (by simp_all)]; first | (rw [if_pos (by first | (simp_all; done) | (simp_all; grind))]; done) | (rw [if_neg (by simp_all)]; first | (rw [if_pos (by first | (simp_all; done) | (simp_all; grind))]; done) | (rw [if_neg (by simp_all)]; first | (rw [if_pos (by first | (simp_all; done) | (simp_all; grind))]; done) | (rw [if_neg (by simp_all)]; first | (rw [if_pos (by first | (simp_all; done) | (simp_all; grind))]; done) | (rw [if_neg (by simp_all)]; done)))))
theorem clerkBook_con (G : Mem) (vs_c : List Value) (c : ClerkD) (h_c : EClerk.R G vs_c c) (epoch : Int) (hw_epoch : -9223372036854775808 ≤ epoch ∧ epoch < 9223372036854775808)  : ConP 13 #[.agg vs_c.toArray, I epoch] G [] (fun u G' L' => ∃ (a1 : Option Addr) (c2 : Nat) (r3 : List Seg), u = .tuple #[Sl a1 (((clerkBook c epoch).1).length) c2, I ((clerkBook c epoch).2)] ∧ (TRow EEnt G' a1 c2 ((clerkBook c epoch).1) r3) ∧ L' = [r3]) := by
 obtain ⟨a1, c1, a2, c2, a3, c3, rfl, w1, hs1, w2, w3, w4, hs2, hs3⟩ := h_c
 refine con_of Tryz.func13 27 [(0, .agg #[I c.queue.most, Sl a1 c.queue.wait.length c1, I c.batch, I c.every, I c.now, Sl a2 c.heads.length c2, Sl a3 c.books.length c3]), (1, I epoch)] rfl (fun w0 G0 => ?_)
 refine tc_seq (tc_region ?_)
 refine runL_box 2 #[I c.queue.most, Sl a1 c.queue.wait.length c1, I c.batch, I c.every, I c.now, Sl a2 c.heads.length c2, Sl a3 c.books.length c3] 45 (fun b1 => ?_)
 refine runL_bn [0,0] [] (runL_nil (tq_then (tc_seq (tc_seq (tc_region ?_)))))
 refine runL_bn [2] [(7, .agg #[I c.queue.most, Sl a1 c.queue.wait.length c1, I c.batch, I c.every, I c.now, Sl a2 c.heads.length c2, Sl a3 c.books.length c3])] ?_
 refine runL_callV 8 (I (clerkCheck c)) (clerkCheck_con G [I c.queue.most, Sl a1 c.queue.wait.length c1, I c.batch, I c.every, I c.now, Sl a2 c.heads.length c2, Sl a3 c.books.length c3] c (⟨a1, c1, a2, c2, a3, c3, rfl, w1, hs1, w2, w3, w4, hs2, hs3⟩)) ?_
 refine runL_bn [0] [(6, I (clerkCheck c))] (runL_nil (tq_then ?_))
 refine tc_rbn [0,0] [(10, Bo (!decide (clerkCheck c = 0)))] ?_
 refine tc_condP (!decide (clerkCheck c = 0)) (fun h1 => ?_) (fun h1 => ?_)
 ·
  refine tc_rbn [0,0,0] [(4, Sl none 0 0), (5, I (clerkCheck c))] (tc_ret (tq_then_ret ?_))
  refine tq_empty ?_
  refine tq_front 0 ?_
  have hf1 : clerkBook c epoch = ([], clerkCheck c) := by
   unfold clerkBook; simp_all
  refine tq_ret [0, 0] [Sl none 0 0, I (clerkCheck c)] (bp_rowsA [[]] (Mem.le_refl _) ?_)
  rw [hf1]
  try dsimp only
  exact ⟨none, 0, ([]), rfl, (TRow.none EEnt _), rfl⟩
 ·
  refine tc_skip (tq_then (tc_seq (tc_seq (tc_region ?_))))
  refine runL_bn [0,0,0] [(14, Bo (decide (epoch < 0)))] ?_
  refine runL_b2n (decide (epoch < 0)) [14] [1,1,1,1,1,0] [0,0,2,0,0,0] (fun bb => [(20, Bo (bb || (decide (epoch ≥ (c.books.length : Int)))))]) ?_
  refine runL_nil (tq_then ?_)
  refine tc_condP ((decide (epoch < 0)) || (decide (epoch ≥ (c.books.length : Int)))) (fun h2 => ?_) (fun h2 => ?_)
  ·
   refine tc_rbn [0,0] [(4, Sl none 0 0), (5, I 4)] (tc_ret (tq_then_ret ?_))
   refine tq_empty ?_
   refine tq_front 0 ?_
   have hf2 : clerkBook c epoch = ([], 4) := by
    unfold clerkBook; simp_all
   refine tq_ret [0, 0] [Sl none 0 0, I 4] (bp_rowsA [[]] (Mem.le_refl _) ?_)
   rw [hf2]
   try dsimp only
   exact ⟨none, 0, ([]), rfl, (TRow.none EEnt _), rfl⟩
  ·
   refine tc_skip (tq_then (tc_seq (tc_region ?_)))
   refine runL_bn [0,2,0] [(22, Sl a3 c.books.length c3), (23, I epoch)] ?_
   obtain ⟨kn1, hkn1⟩ : ∃ k_ : Nat, epoch = (k_ : Int) := ⟨(epoch).toNat, by omega⟩
   have e1 : epoch = (kn1 : Int) := hkn1
   refine runL_put 23 (I (kn1 : Int)) (congrArg I e1) ?_
   obtain ⟨b2, o1, rfl⟩ := RS.addr hs3 (k := kn1) (by omega)
   obtain ⟨x1, hx1⟩ := getX (l := c.books) (k := kn1) (by omega)
   obtain ⟨_, ⟨a4, c4, rfl, hs4⟩, hc1⟩ := RS.get hs3 hx1
   refine runL_idx (b := b2) (off := o1) (len := c.books.length) (cap := c3) (ik := .i64) 24 25 1 kn1 (by omega) ?_
   refine runL_ldG 25 25 (cs := [Sl a4 x1.length c4]) 0 (Sl a4 x1.length c4) hc1 ?_
   refine runL_callR 26 (sclone_EEnt G a4 c4 x1 hs4) (fun v G1 L1 hl1 hp => ?_)
   obtain ⟨a5, c5, r1, rfl, hr1, rfl⟩ := hp
   refine runL_bn [0,0] [(4, Sl a5 x1.length c5), (5, I 0)] (runL_nil (tq_then (tc_ret ?_)))
   refine tq_front 0 ?_
   have hf3 : clerkBook c epoch = (x1, 0) := by
    unfold clerkBook; simp_all
   refine tq_ret [0, 0] [Sl a5 x1.length c5, I 0] (bp_rowsA [r1] hl1 ?_)
   rw [hf3]
   try dsimp only
   exact ⟨a5, c5, r1, rfl, hr1, rfl⟩
end Go.Proofs.YtpofnmobbbcpgaaGreatDoor
