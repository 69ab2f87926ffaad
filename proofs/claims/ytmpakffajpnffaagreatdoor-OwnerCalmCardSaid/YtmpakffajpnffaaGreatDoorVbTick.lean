import Derived.Test.YtmpakffajpnffaaGreatDoorVbClerk
namespace Go.Proofs.YtmpakffajpnffaaGreatDoor
open Go.Tx
set_option linter.unusedVariables false
set_option linter.unusedSimpArgs false
open Go.Tx Go.Proofs
theorem set_take {α : Type} {x b : List α} {i : Nat} {v : α} (h : x.take i = b.take i) (hi : i < x.length) (hv : b[i]? = some v) : (x.set i v).take (i + 1) = b.take (i + 1) := by
  rw [List.take_add_one, List.take_set_of_le (Nat.le_refl _), h, List.take_add_one, hv, List.getElem?_set_self hi]
theorem take_eq_of {α : Type} {x b : List α} {i : Nat} (hl : x.length = b.length) (h : x.take i = b.take i) (hi : b.length ≤ i) : x = b := by
  rw [List.take_of_length_le (by omega), List.take_of_length_le hi] at h; exact h
def closedB (c : ClerkD) : Bool := decide ((c.heads.length : Int) = 40) || decide (c.now = 1000000000)
def clerkAsk (c : ClerkD) (a : AskD) : ClerkD × Int × Int := if ¬ clerkCheck c = 0 then (clerkZ, 0, clerkCheck c) else if ¬ (queuePut c.queue a).2.2 = 0 ∧ ¬ (queuePut c.queue a).2.2 = 7 then (clerkZ, 0, (queuePut c.queue a).2.2) else if closedB c = true then (clerkZ, 0, 9) else if (queuePut c.queue a).2.2 = 7 ∨ clerkNames c [a.name] > 24 then (clerkZ, 0, 7) else (⟨(queuePut c.queue a).1, c.batch, c.every, c.now, c.heads, c.books⟩, c.now - c.now.tmod c.every + (queueWait (queuePut c.queue a).2.1 c.batch c.every).1, 0)
def setAll (b : List EntD) (l : List AskD) : List EntD := l.foldl (fun b a => (treeSet b a.name a.value).1) b
theorem setAll_next {b : List EntD} {l : List AskD} {i : Nat} {a : AskD} (h : l[i]? = some a) : (treeSet (setAll b (l.take i)) a.name a.value).1 = setAll b (l.take (i + 1)) := by
  unfold setAll; rw [List.take_add_one, h]; simp [List.foldl_append]
def tickBook (c : ClerkD) : List EntD := setAll (lastB c.books) (queueTake c.queue c.batch).2.1
def clerkTick (c : ClerkD) : ClerkD × Bool × Int := if ¬ clerkCheck c = 0 then (clerkZ, false, clerkCheck c) else if closedB c = true then (c, false, 0) else if ¬ (c.now + 1).tmod c.every = 0 then (⟨c.queue, c.batch, c.every, c.now + 1, c.heads, c.books⟩, false, 0) else (⟨(queueTake c.queue c.batch).1, c.batch, c.every, c.now + 1, (chainGrow c.heads (treeAtE (tickBook c) []).1 (c.now + 1)).1, c.books ++ [tickBook c]⟩, true, 0)
theorem names_nodup {b : List EntD} (h : TreeOk b) : (entNames b).Nodup := by
  unfold entNames
  refine List.pairwise_map.2 (h.pair.imp fun {x y} hxy e => ?_)
  rw [ordN_zero.2 e] at hxy; omega
theorem mem_entNames {b : List EntD} {s : List UInt8} : s ∈ entNames b ↔ ∃ x ∈ b, x.name = s := by unfold entNames; simp
theorem mem_askNames {b : List AskD} {s : List UInt8} : s ∈ askNames b ↔ ∃ x ∈ b, x.name = s := by unfold askNames; simp
theorem treeSet_can {b : List EntD} {name value : List UInt8} (h : TreeOk b) (hr : treeRight name value = 0) (hf : name ∈ entNames b ∨ b.length < 24) : (treeSet b name value).2 = 0 := by
  have hp := (right_bd hr).2.2
  have e1 : treeFind b name = ((bsF b name entOrd).1, (bsF b name entOrd).2, 0) := by
    unfold treeFind; rw [if_neg (by rw [treeCheck_iff.2 h]; simp), if_neg (by rw [hp]; simp)]
  have e2 : treeSetE b name value = 0 := by
    unfold treeSetE
    rw [e1, if_neg (by simp), if_neg (by rw [hr]; simp), if_neg]
    rintro ⟨q1, q2⟩
    rcases hf with hf | hf
    · have := (bsF_is h name).2 (mem_entNames.1 hf)
      rw [this] at q1; cases q1
    · omega
  unfold treeSet
  rw [if_neg (by omega)]
theorem set_names {b : List EntD} {name value : List UInt8} (h : (treeSet b name value).2 = 0) {s : List UInt8} : s ∈ entNames (treeSet b name value).1 ↔ s = name ∨ s ∈ entNames b := by
  obtain ⟨_, _, _, q⟩ := treeSet_ok h
  rw [mem_entNames, mem_entNames]
  constructor
  · rintro ⟨x, hx, rfl⟩
    rcases (q x).1 hx with e | ⟨e, _⟩
    · exact .inl (by rw [e])
    · exact .inr ⟨x, e, rfl⟩
  · rintro (rfl | ⟨x, hx, rfl⟩)
    · exact ⟨_, (q _).2 (.inl rfl), rfl⟩
    · by_cases e : x.name = name
      · exact ⟨_, (q _).2 (.inl rfl), e.symm⟩
      · exact ⟨x, (q x).2 (.inr ⟨hx, e⟩), rfl⟩
theorem askR_tree {a : AskD} (h : queueRight a = 0) : treeRight a.name a.value = 0 := h
theorem setAll_ok : ∀ (l : List AskD) (b : List EntD), TreeOk b → (∀ a ∈ l, queueRight a = 0) → nn (entNames b ++ askNames l) ≤ 24 →
    TreeOk (setAll b l) ∧ (∀ s, s ∈ entNames (setAll b l) ↔ s ∈ entNames b ∨ s ∈ askNames l)
  | [], b, h, _, _ => ⟨h, fun s => by simp [setAll, askNames]⟩
  | a :: l, b, h, hr, hn => by
    have ha := askR_tree (hr a (by simp))
    have hf : a.name ∈ entNames b ∨ b.length < 24 := by
      by_cases e : a.name ∈ entNames b
      · exact .inl e
      · right
        have h1 : (a.name :: entNames b).Nodup := List.nodup_cons.2 ⟨e, names_nodup h⟩
        have h2 := nn_nodup h1
        have h3 : nn (a.name :: entNames b) ≤ nn (entNames b ++ askNames (a :: l)) := nn_mono fun x hx => by
          rcases List.mem_cons.1 hx with rfl | hx
          · exact List.mem_append.2 (.inr (mem_askNames.2 ⟨a, by simp, rfl⟩))
          · exact List.mem_append.2 (.inl hx)
        simp only [List.length_cons] at h2
        have : (entNames b).length = b.length := by simp [entNames]
        omega
    have hs := treeSet_can h ha hf
    have hok := (treeSet_ok hs).2.2.1
    have hmem : ∀ s, s ∈ entNames (treeSet b a.name a.value).1 ++ askNames l → s ∈ entNames b ++ askNames (a :: l) := fun s hs' => by
      rcases List.mem_append.1 hs' with q | q
      · rcases (set_names hs).1 q with rfl | q
        · exact List.mem_append.2 (.inr (mem_askNames.2 ⟨a, by simp, rfl⟩))
        · exact List.mem_append.2 (.inl q)
      · exact List.mem_append.2 (.inr (by simp only [askNames, List.map_cons, List.mem_cons]; exact .inr q))
    obtain ⟨q1, q2⟩ := setAll_ok l _ hok (fun x hx => hr x (by simp [hx])) (Nat.le_trans (nn_mono hmem) hn)
    refine ⟨q1, fun s => ?_⟩
    show s ∈ entNames (setAll (treeSet b a.name a.value).1 l) ↔ _
    rw [q2 s, set_names hs]
    simp only [askNames, List.map_cons, List.mem_cons]
    constructor
    · rintro ((h | h) | h)
      · exact .inr (.inl h)
      · exact .inl h
      · exact .inr (.inr h)
    · rintro (h | h | h)
      · exact .inl (.inr h)
      · exact .inl (.inl h)
      · exact .inr h
theorem ClerkOk.last {c : ClerkD} (h : ClerkOk c) : c.books[c.books.length - 1]? = some (lastB c.books) := by
  have := h.len; have := h.chain.len1
  have hl : c.books.length - 1 < c.books.length := by omega
  unfold lastB; rw [List.getElem?_eq_getElem hl]; rfl
theorem ClerkOk.book {c : ClerkD} (h : ClerkOk c) {k : Nat} {x : List EntD} (hx : c.books[k]? = some x) : TreeOk x := (treeAtE_ok (h.root k x hx).1).1
theorem ClerkOk.bds {c : ClerkD} (h : ClerkOk c) : 0 < c.books.length ∧ c.books.length ≤ 1000 ∧ (lastB c.books).length ≤ 1000 ∧ c.queue.wait.length ≤ 1000 ∧ 1 ≤ c.heads.length ∧ c.heads.length ≤ 40 := by
  have h1 := queueCheck_iff.1 h.queue
  have := h.len; have := h.chain.len1; have := h.chain.len
  have := (h.book h.last).len
  omega
theorem ck_bd {c : ClerkD} (h : clerkCheck c = 0) : (0 < c.books.length ∧ c.books.length ≤ 1000 ∧ (lastB c.books).length ≤ 1000 ∧ c.queue.wait.length ≤ 1000 ∧ 1 ≤ c.heads.length ∧ c.heads.length ≤ 40) ∧ (0 ≤ c.now ∧ c.now ≤ 1000000000) ∧ (1 ≤ c.batch ∧ c.batch ≤ 30) ∧ 1 ≤ c.every ∧ c.every ≤ 1000 :=
  let q := clerkCheck_iff.1 h
  ⟨q.bds, q.now, q.batch, q.every⟩
theorem clerkAsk_ok {c : ClerkD} {a : AskD} (h : (clerkAsk c a).2.2 = 0) : ClerkOk c ∧ (queuePut c.queue a).2.2 = 0 ∧ closedB c = false ∧ nn (clerkNs c [a.name]) ≤ 24 ∧ clerkAsk c a = (⟨(queuePut c.queue a).1, c.batch, c.every, c.now, c.heads, c.books⟩, c.now - c.now.tmod c.every + (queueWait (queuePut c.queue a).2.1 c.batch c.every).1, 0) := by
  unfold clerkAsk at h ⊢
  split at h
  · contradiction
  split at h
  · rename_i h1 h2; exact absurd h h2.1
  split at h
  · cases h
  split at h
  · cases h
  · rename_i h1 h2 h3 h4
    rw [if_neg h1, if_neg h2, if_neg h3, if_neg h4]
    simp only [not_or] at h4
    have h5 := h4.2; unfold clerkNames at h5
    exact ⟨clerkCheck_iff.1 (Decidable.not_not.1 h1), by apply Decidable.byContradiction; intro hc; exact h2 ⟨hc, h4.1⟩, by simpa using h3, by omega, rfl⟩
theorem clerkAsk_right {c : ClerkD} {a : AskD} (h : (clerkAsk c a).2.2 = 0) : ClerkOk (clerkAsk c a).1 := by
  obtain ⟨ok, hq, _, hn, e⟩ := clerkAsk_ok h
  rw [e]
  obtain ⟨_, _, _, e2⟩ := queuePut_ok hq
  refine ⟨queuePut_check hq, ok.batch, ok.every, ok.now, ok.chain, ok.first, ok.len, ok.at_, ok.root, ?_⟩
  refine Nat.le_trans (nn_mono fun x hx => ?_) hn
  unfold clerkNs at hx ⊢
  rw [e2] at hx
  simp only [askNames, List.map_append, List.map_cons, List.map_nil, List.mem_append, List.mem_singleton, List.not_mem_nil, or_false] at hx ⊢
  rcases hx with h | h | h
  · exact .inl (.inl h)
  · exact .inl (.inr h)
  · exact .inr h
theorem grow_can {c : ClerkD} (h : ClerkOk c) (hc : closedB c = false) {r : Int} (hr : r < 2305843009213693951) : (chainGrow c.heads r (c.now + 1)).2 = 0 ∧ chainGrow c.heads r (c.now + 1) = (c.heads ++ [(headNext (lastH c.heads) r (c.now + 1)).1], 0) ∧ (headNext (lastH c.heads) r (c.now + 1)).2 = 0 := by
  unfold closedB at hc
  simp only [Bool.or_eq_false_iff, decide_eq_false_iff_not] at hc
  have hn := h.now
  have he : (headNext (lastH c.heads) r (c.now + 1)).2 = 0 := by
    have hk : headCheck (lastH c.heads) = 0 := h.chain.ok _ (List.mem_of_getElem? h.chain.last)
    have hl := h.chain.lastE
    have hf := h.first
    have hlen := h.chain.len
    have ha := h.at_
    have hb := headMark_bd (lastH c.heads)
    have hb2 := headCheck_ok hk
    unfold headNext
    have : headNextE (lastH c.heads) r (c.now + 1) = 0 := by
      unfold headNextE
      rw [if_neg (by omega), if_neg (by omega), if_neg (by omega)]
      unfold headCheck
      simp only
      rw [if_neg (by omega), if_neg (by omega)]
    rw [if_neg (by omega)]
  have hg : chainGrowE c.heads r (c.now + 1) = 0 := by
    unfold chainGrowE
    rw [if_neg (by rw [check1_iff.2 h.chain]; simp), if_neg (by exact_mod_cast hc.1), he]
  refine ⟨?_, ?_, he⟩ <;> (unfold chainGrow; rw [if_neg (by omega)])
theorem chainGrow_len (l : List HeadD) (r t : Int) : (chainGrow l r t).1.length ≤ 40 := by
  by_cases h : (chainGrow l r t).2 = 0
  · obtain ⟨_, h2, _, h4⟩ := chainGrow_ok h
    rw [h4]; simp; omega
  · rw [chainGrow_err h]; simp
theorem queueTake_can {c : ClerkD} (h : ClerkOk c) : (queueTake c.queue c.batch).2.2 = 0 ∧ queueTake c.queue c.batch = ((⟨c.queue.most, c.queue.wait.drop (minLen c.batch c.queue.wait)⟩ : QueueD), c.queue.wait.take (minLen c.batch c.queue.wait), (0 : Int)) := by
  have hq := h.queue; have hb := h.batch
  constructor <;> (unfold queueTake; rw [if_neg (by omega), if_neg (by omega)])
theorem tickBook_ok {c : ClerkD} (h : ClerkOk c) : TreeOk (tickBook c) ∧ (∀ s, s ∈ entNames (tickBook c) ↔ s ∈ entNames (lastB c.books) ∨ s ∈ askNames (c.queue.wait.take (minLen c.batch c.queue.wait))) := by
  unfold tickBook
  rw [(queueTake_can h).2]
  refine setAll_ok _ _ (h.book h.last) (fun a ha => (queueCheck_iff.1 h.queue).2.2.2 a (List.mem_of_mem_take ha)) (Nat.le_trans (nn_mono fun x hx => ?_) h.names)
  unfold clerkNs
  rcases List.mem_append.1 hx with q | q
  · simp [q]
  · obtain ⟨a, ha, rfl⟩ := mem_askNames.1 q
    have : a.name ∈ askNames c.queue.wait := mem_askNames.2 ⟨a, List.mem_of_mem_take ha, rfl⟩
    simp [this]
theorem lastB_snoc (l : List (List EntD)) (x : List EntD) : lastB (l ++ [x]) = x := by unfold lastB; simp
theorem firstH_app {l : List HeadD} (h : 1 ≤ l.length) (m : List HeadD) : firstH (l ++ m) = firstH l := by
  unfold firstH; rw [List.getElem?_append_left (by omega)]
theorem lastH_snoc (l : List HeadD) (x : HeadD) : lastH (l ++ [x]) = x := by unfold lastH; simp
structure Ticked (c d : ClerkD) : Prop where
  ok : ClerkOk d
  batch : d.batch = c.batch
  every : d.every = c.every
  heads : ∃ m, d.heads = c.heads ++ m
  books : ∃ m, d.books = c.books ++ m
theorem clerkTick_ok {c : ClerkD} (h : ClerkOk c) : (clerkTick c).2.2 = 0 ∧ Ticked c (clerkTick c).1 := by
  have h0 := clerkCheck_iff.2 h
  unfold clerkTick
  rw [if_neg (by omega)]
  by_cases h1 : closedB c = true
  · rw [if_pos h1]; exact ⟨rfl, h, rfl, rfl, ⟨[], by simp⟩, ⟨[], by simp⟩⟩
  rw [if_neg h1]
  have h1' : closedB c = false := by simpa using h1
  have hnow : c.now + 1 ≤ 1000000000 := by
    have := h.now; unfold closedB at h1'; simp only [Bool.or_eq_false_iff, decide_eq_false_iff_not] at h1'; omega
  by_cases h2 : (c.now + 1).tmod c.every = 0
  · rw [if_neg (by omega)]
    obtain ⟨t1, t2⟩ := tickBook_ok h
    have hroot := treeAtE_of (q := []) t1 (by simp) (by simp)
    have hb := treeAt_bd61 (treeUnder (tickBook c) []) []
    have hr : (treeAtE (tickBook c) []).1 < 2305843009213693951 := by rw [hroot]; exact hb.2
    obtain ⟨g1, g2, g3⟩ := grow_can h h1' hr
    obtain ⟨k1, k2⟩ := linkB_next g3
    obtain ⟨u1, u2⟩ := queueTake_can h
    have hlen1 := h.chain.len1
    have hlt : c.heads.length < 40 := (chainGrow_ok g1).2.1
    rw [g2]
    have hbk := h.len
    have hnx := (headNext_ok g3).2.2.2.1
    refine ⟨rfl, ⟨queueTake_check u1, h.batch, h.every, ⟨by have := h.now; show 0 ≤ c.now + 1; omega, hnow⟩, h.chain.snoc hlt k2 k1, ?_, ?_, ?_, ?_, ?_⟩, rfl, rfl, ⟨_, rfl⟩, ⟨_, rfl⟩⟩
    · show (firstH (c.heads ++ _)).epoch = 0; rw [firstH_app hlen1]; exact h.first
    · simp only [List.length_append, List.length_cons, List.length_nil]; omega
    · show (lastH (c.heads ++ _)).at_ ≤ c.now + 1; rw [lastH_snoc, hnx]; exact Int.le_refl _
    · intro k x hx
      simp only at hx ⊢
      by_cases hk : k < c.books.length
      · rw [List.getElem?_append_left hk] at hx
        rw [List.getElem?_append_left (by omega)]
        exact h.root k x hx
      · rw [List.getElem?_append_right (by omega)] at hx
        have hk2 : k - c.books.length = 0 := by
          have := (List.getElem?_eq_some_iff.1 hx).1; simp at this; omega
        rw [hk2] at hx
        simp only [List.getElem?_cons_zero, Option.some.injEq] at hx
        subst hx
        rw [List.getElem?_append_right (by omega), show k - c.heads.length = 0 by omega]
        refine ⟨by rw [hroot], ?_⟩
        show _ = (headNext _ _ _).1.root
        rw [hnx]
    · refine Nat.le_trans (nn_mono fun x hx => ?_) h.names
      unfold clerkNs at hx ⊢
      simp only [lastB_snoc, List.append_nil] at hx ⊢
      rw [u2] at hx
      rcases List.mem_append.1 hx with q | q
      · rcases (t2 x).1 q with q | q
        · exact List.mem_append.2 (.inl q)
        · obtain ⟨a, ha, rfl⟩ := mem_askNames.1 q
          exact List.mem_append.2 (.inr (mem_askNames.2 ⟨a, List.mem_of_mem_take ha, rfl⟩))
      · obtain ⟨a, ha, rfl⟩ := mem_askNames.1 q
        exact List.mem_append.2 (.inr (mem_askNames.2 ⟨a, List.mem_of_mem_drop ha, rfl⟩))
  · rw [if_pos h2]
    refine ⟨rfl, ⟨h.queue, h.batch, h.every, ⟨by have := h.now; show 0 ≤ c.now + 1; omega, hnow⟩, h.chain, h.first, h.len, ?_, h.root, h.names⟩, rfl, rfl, ⟨[], by simp⟩, ⟨[], by simp⟩⟩
    have := h.at_; show (lastH c.heads).at_ ≤ c.now + 1; omega
theorem tmod_nn {n e : Int} (h : 0 ≤ n) : n.tmod e = n % e := Int.tmod_eq_emod_of_nonneg h
theorem tmod_bd {n e : Int} (h : 0 ≤ n) (he : 1 ≤ e) : 0 ≤ n.tmod e ∧ n.tmod e ≤ n ∧ n.tmod e < e := by
  rw [tmod_nn h]
  have h2 := Int.emod_nonneg n (show e ≠ 0 by omega)
  have h3 := Int.emod_lt_of_pos n (show 0 < e by omega)
  have h1 := Int.emod_add_mul_ediv n e
  have h4 : 0 ≤ e * (n / e) := Int.mul_nonneg (by omega) (Int.ediv_nonneg h (by omega))
  omega
theorem qw_bd (a b e : Int) : 0 ≤ (queueWait a b e).1 ∧ (queueWait a b e).1 ≤ 31000 := by
  unfold queueWait
  split
  · simp
  · have h1 := qdiv_bd (a := a) (b := b) (by omega) (by omega)
    have h2 := qmul_bd (a := a.tdiv b + 1) (b := e) (by omega) (by omega)
    simp only; omega
theorem closedB_con (G : Mem) (vs_c : List Value) (c : ClerkD) (h_c : EClerk.R G vs_c c)  : Con Tryz.prog 57 #[.agg vs_c.toArray] G [] (fun u G' L' => u = Bo (closedB c)) := by
 obtain ⟨a1, c1, a2, c2, a3, c3, rfl, w1, hs1, w2, w3, w4, hs2, hs3⟩ := h_c
 refine con_of Tryz.func57 12 [(0, .agg #[I c.queue.most, Sl a1 c.queue.wait.length c1, I c.batch, I c.every, I c.now, Sl a2 c.heads.length c2, Sl a3 c.books.length c3])] rfl (fun w0 G0 => ?_)
 refine tc_seq (tc_region ?_)
 refine runL_box 1 #[I c.queue.most, Sl a1 c.queue.wait.length c1, I c.batch, I c.every, I c.now, Sl a2 c.heads.length c2, Sl a3 c.books.length c3] 28 (fun b1 => ?_)
 refine runL_b [0] [(1, Pt b1 0)] (runL_nil (tq_then (tc_seq (tc_region ?_))))
 refine runL_b [0,2,0,0,0] [(1, Pt b1 0), (7, Bo (decide ((c.heads.length : Int) = 40)))] ?_
 refine runL_b2 (decide ((c.heads.length : Int) = 40)) (fun bb => [(1, Pt b1 0), (7, Bo bb)]) [1,1,1,0] [0,2,0,0] (fun bb => [(11, Bo (bb || (decide (c.now = 1000000000))))]) ?_
 refine runL_b [0] [(2, Bo ((decide ((c.heads.length : Int) = 40)) || (decide (c.now = 1000000000))))] (runL_nil (tq_then (tc_ret ?_)))
 refine tq_ret [0] [Bo ((decide ((c.heads.length : Int) = 40)) || (decide (c.now = 1000000000)))] (bp_ret (Mem.le_refl _) ?_)
 have hf_ : (closedB c) = ((decide ((c.heads.length : Int) = 40)) || (decide (c.now = 1000000000))) := by
  rfl
 (try rw [hf_]); first | with_reducible rfl | (simp only [packR]; done) | rfl
theorem copiedC_con (G : Mem) (vs_c : List Value) (c : ClerkD) (h_c : EClerk.R G vs_c c) (hb : c.books.length ≤ 1000) : Con Tryz.prog 59 #[.agg vs_c.toArray] G [] (fun u G' L' => ∃ (a1 : Option Addr) (c2 : Nat) (a3 : Option Addr) (c4 : Nat) (a5 : Option Addr), u = .agg #[I c.queue.most, Sl a1 c.queue.wait.length c2, I c.batch, I c.every, I c.now, Sl a3 c.heads.length c4, Sl a5 c.books.length c.books.length] ∧ (-9223372036854775808 ≤ c.queue.most ∧ c.queue.most < 9223372036854775808) ∧ (RS EAsk G' a1 c2 c.queue.wait) ∧ (-9223372036854775808 ≤ c.batch ∧ c.batch < 9223372036854775808) ∧ (-9223372036854775808 ≤ c.every ∧ c.every < 9223372036854775808) ∧ (-9223372036854775808 ≤ c.now ∧ c.now < 9223372036854775808) ∧ (RS EHead G' a3 c4 c.heads) ∧ (RS ESlEnt G' a5 c.books.length c.books) ∧ L' = []) := by
 obtain ⟨a1, c1, a2, c2, a3, c3, rfl, w1, hs1, w2, w3, w4, hs2, hs3⟩ := h_c
 refine con_of Tryz.func59 37 [(0, .agg #[I c.queue.most, Sl a1 c.queue.wait.length c1, I c.batch, I c.every, I c.now, Sl a2 c.heads.length c2, Sl a3 c.books.length c3])] rfl (fun w0 G0 => ?_)
 refine tc_seq (tc_region ?_)
 refine runL_box 1 #[I c.queue.most, Sl a1 c.queue.wait.length c1, I c.batch, I c.every, I c.now, Sl a2 c.heads.length c2, Sl a3 c.books.length c3] 28 (fun b1 => ?_)
 refine runL_box 2 #[I 0, Sl none 0 0, I 0, I 0, I 0, Sl none 0 0, Sl none 0 0] 28 (fun b2 => ?_)
 refine runL_nil (tq_then (tc_seq (tc_region ?_)))
 refine runL_b [0,0,4] [(1, Pt b1 0), (2, Pt b2 0), (8, Sl a1 c.queue.wait.length c1)] ?_
 refine runL_callR 9 (sclone_EAsk G a1 c1 c.queue.wait hs1) (fun v G1 L1 hl1 hp => ?_)
 obtain ⟨a4, c4, r1, rfl, hr1, rfl⟩ := hp
 refine runL_bs [0,0,7] [(1, Pt b1 0), (2, Pt b2 0)] [r1, [Sg b2 0 [I 0, Sl none 0 0, I 0, I 0, I 0, Sl none 0 0, Sl none 0 0]], [Sg b1 0 [I c.queue.most, Sl a4 c.queue.wait.length c4, I c.batch, I c.every, I c.now, Sl a2 c.heads.length c2, Sl a3 c.books.length c3]]] (runL_nil (tq_then (tc_seq (tc_region ?_))))
 refine runL_b [0,6] [(1, Pt b1 0), (2, Pt b2 0), (13, Sl a2 c.heads.length c2)] ?_
 refine runL_callR 14 (sclone_EHead G1 a2 c2 c.heads (hs2.mono hl1)) (fun v G2 L1 hl2 hp => ?_)
 obtain ⟨a5, c5, r2, rfl, hr2, rfl⟩ := hp
 refine runL_bs [0,9] [(1, Pt b1 0), (2, Pt b2 0)] [r2, r1, [Sg b2 0 [I 0, Sl none 0 0, I 0, I 0, I 0, Sl none 0 0, Sl none 0 0]], [Sg b1 0 [I c.queue.most, Sl a4 c.queue.wait.length c4, I c.batch, I c.every, I c.now, Sl a5 c.heads.length c5, Sl a3 c.books.length c3]]] (runL_nil (tq_then (tc_seq (tc_region ?_))))
 refine runL_b [0,8,0] [(1, Pt b1 0), (2, Pt b2 0), (18, I (c.books.length : Int))] ?_
 refine runL_mkrow (E := ESlEnt) (bytes := 24) 19 26 33 c.books.length ([] : List EntD) ⟨rfl, rfl, fun G => ⟨_, _, rfl, RS.nil' EEnt G⟩⟩ (by omega) (by omega) (by kernel_rfl) (fun a6 r3 hr3 => ?_)
 refine runL_b [0] [(1, Pt b1 0), (2, Pt b2 0), (3, Sl a6 ((List.replicate c.books.length ([] : List EntD)).length) c.books.length)] (runL_nil (tq_then (tc_seq ?_)))
 refine tc_rb [0,10,0,0] [(1, Pt b1 0), (2, Pt b2 0), (3, Sl a6 ((List.replicate c.books.length ([] : List EntD)).length) c.books.length), (21, Sl a3 c.books.length c3), (22, I (c.books.length : Int)), (23, I 0)] (tc_block ?_)
 have hlm_hs3 : c.books.length ≤ 9223372036854775807 := Nat.le_trans (hs3).le (hs3).max
 refine tc_loop (σ := Nat × Option Addr × Nat × List Seg × List (List EntD) × Mem) (fun q_ => (Mem.le G2 q_.2.2.2.2.2) ∧ (q_.1 ≤ c.books.length) ∧ (TRow ESlEnt q_.2.2.2.2.2 q_.2.1 q_.2.2.1 q_.2.2.2.2.1 q_.2.2.2.1) ∧ (q_.2.2.2.2.1.length = c.books.length ∧ q_.2.2.2.2.1.take q_.1 = c.books.take q_.1) ∧ (q_.2.2.1 = q_.2.2.2.2.1.length)) (fun q_ => [(1, Pt b1 0), (2, Pt b2 0), (3, Sl q_.2.1 q_.2.2.2.2.1.length q_.2.2.1), (21, Sl a3 c.books.length c3), (22, I (c.books.length : Int)), (23, I (q_.1 : Int))]) (fun q_ => q_.2.2.2.2.2) (fun q_ => [q_.2.2.2.1, r2, r1, [Sg b2 0 [I 0, Sl none 0 0, I 0, I 0, I 0, Sl none 0 0, Sl none 0 0]], [Sg b1 0 [I c.queue.most, Sl a4 c.queue.wait.length c4, I c.batch, I c.every, I c.now, Sl a5 c.heads.length c5, Sl a3 c.books.length c3]]]) (fun q_ => c.books.length - q_.1) (0, a6, c.books.length, r3, (List.replicate c.books.length ([] : List EntD)), G2) ⟨(Mem.le_refl _), (by (try dsimp only); first | exact Nat.zero_le _ | omega | simp), hr3, ⟨by simp, rfl⟩, (by (try dsimp only); simp)⟩ (fun q_ hs => ?_)
 obtain ⟨i, aw, cw, rw, xw, g⟩ := q_
 obtain ⟨hle, hi, hrw, hxw, hcw⟩ := hs
 dsimp only at hle hi hrw hxw hcw
 refine tc_eq (fr' := [(1, Pt b1 0), (2, Pt b2 0), (3, Sl aw xw.length cw), (21, Sl a3 c.books.length c3), (22, I (c.books.length : Int)), (23, I (i : Int))]) (L' := [rw, r2, r1, [Sg b2 0 [I 0, Sl none 0 0, I 0, I 0, I 0, Sl none 0 0, Sl none 0 0]], [Sg b1 0 [I c.queue.most, Sl a4 c.queue.wait.length c4, I c.batch, I c.every, I c.now, Sl a5 c.heads.length c5, Sl a3 c.books.length c3]]]) rfl rfl ?_
 refine tc_rb [0] [(1, Pt b1 0), (2, Pt b2 0), (3, Sl aw xw.length cw), (21, Sl a3 c.books.length c3), (22, I (c.books.length : Int)), (23, I (i : Int)), (24, Bo (decide ((i : Int) < (c.books.length : Int))))] (tc_seq ?_)
 refine tc_cond (decide ((i : Int) < (c.books.length : Int))) (fun h1 => ?_) (fun h1 => ?_)
 ·
  try simp only [BB] at h1
  refine tc_skip (tq_then (tc_seq (tc_block (tc_seq (tc_region ?_)))))
  refine runL_b [0] [(1, Pt b1 0), (2, Pt b2 0), (3, Sl aw xw.length cw), (21, Sl a3 c.books.length c3), (22, I (c.books.length : Int)), (23, I (i : Int)), (25, I (i : Int))] ?_
  obtain ⟨b3, o1, rfl⟩ := RS.addr (hs3.mono (Mem.le_trans (Mem.le_trans hl1 hl2) hle)) (k := i) (by omega)
  obtain ⟨x1, hx1⟩ := getX (l := c.books) (k := i) (by omega)
  obtain ⟨_, ⟨a7, c6, rfl, hs4⟩, hc1⟩ := RS.get (hs3.mono (Mem.le_trans (Mem.le_trans hl1 hl2) hle)) hx1
  refine runL_idx (b := b3) (off := o1) (len := c.books.length) (cap := c3) (ik := .i64) 26 33 1 i (by omega) ?_
  refine runL_ldG 27 33 (cs := [Sl a7 x1.length c6]) 0 (Sl a7 x1.length c6) hc1 ?_
  refine runL_b [0,0] [(1, Pt b1 0), (2, Pt b2 0), (3, Sl aw xw.length cw), (4, I (i : Int)), (5, Sl a7 x1.length c6), (21, Sl (At b3 o1) c.books.length c3), (22, I (c.books.length : Int)), (23, I (i : Int))] (runL_nil (tq_then (tc_region ?_)))
  refine runL_b [0,0,0] [(1, Pt b1 0), (2, Pt b2 0), (3, Sl aw xw.length cw), (21, Sl (At b3 o1) c.books.length c3), (22, I (c.books.length : Int)), (23, I (i : Int)), (28, Sl aw xw.length cw), (29, I (i : Int)), (30, Sl a7 x1.length c6)] ?_
  refine runL_callR 31 (sclone_EEnt g a7 c6 x1 hs4) (fun v G3 L1 hl3 hp => ?_)
  obtain ⟨a8, c7, r4, rfl, hr4, rfl⟩ := hp
  obtain ⟨x2, hx2⟩ := getX (l := xw) (k := i) (by omega)
  obtain ⟨b4, o2, fu1, _, ⟨a9, c8, rfl, hs5⟩, ha1, hre1, hc2⟩ := TRow.ix (hrw.mono hl3) hx2
  refine runL_idxR (b := b4) (off := o2) (len := xw.length) (cap := cw) (ik := .i64) 32 33 1 i ha1 (by omega) ?_
  refine runL_b [] [(1, Pt b1 0), (2, Pt b2 0), (3, Sl aw xw.length cw), (21, Sl (At b3 o1) c.books.length c3), (22, I (c.books.length : Int)), (23, I (i : Int)), (28, Sl aw xw.length cw), (29, I (i : Int)), (30, Sl a7 x1.length c6), (31, Sl a8 x1.length c7), (32, Pt b4 (o2 + i * 1))] ?_
  refine runL_frzR (E := EEnt) 0 hr4 (by exact (hs4).fit) (fun G4 hl4 hs6 => ?_)
  refine runL_stR (b := b4) (off := o2) 1 (hrw.mono (Mem.le_trans hl3 hl4)) i x1 ha1 (by omega) (Sl a8 x1.length c7) [Sl a8 x1.length c7] ⟨a8, c7, rfl, hs6⟩ (fun r5 hr5 => ?_)
  have e1 : xw.length = (xw.set i x1).length := (List.length_set ..).symm
  refine runL_eq (fr' := [(1, Pt b1 0), (2, Pt b2 0), (3, Sl aw ((xw.set i x1).length) cw), (21, Sl (At b3 o1) c.books.length c3), (22, I (c.books.length : Int)), (23, I (i : Int)), (28, Sl aw ((xw.set i x1).length) cw), (29, I (i : Int)), (30, Sl a7 x1.length c6), (31, Sl a8 x1.length c7), (32, Pt b4 (o2 + i * 1))]) (L' := [[], r5, r2, r1, [Sg b2 0 [I 0, Sl none 0 0, I 0, I 0, I 0, Sl none 0 0, Sl none 0 0]], [Sg b1 0 [I c.queue.most, Sl a4 c.queue.wait.length c4, I c.batch, I c.every, I c.now, Sl a5 c.heads.length c5, Sl (At b3 o1) c.books.length c3]]]) (by simp only [e1]) (by rfl) ?_
  refine runL_nil (tq_block (tq_then (tc_region ?_)))
  refine runL_b [0,0] [(1, Pt b1 0), (2, Pt b2 0), (3, Sl aw ((xw.set i x1).length) cw), (21, Sl (At b3 o1) c.books.length c3), (22, I (c.books.length : Int)), (23, I (IntKind.i64.wrap ((i : Int) + 1)))] ?_
  have e2 : IntKind.i64.wrap ((i : Int) + 1) = (i : Int) + 1 := IntWalk.i64_in _ (by omega)
  refine runL_eq (fr' := [(1, Pt b1 0), (2, Pt b2 0), (3, Sl aw ((xw.set i x1).length) cw), (21, Sl (At b3 o1) c.books.length c3), (22, I (c.books.length : Int)), (23, I ((i : Int) + 1))]) (L' := [[], r5, r2, r1, [Sg b2 0 [I 0, Sl none 0 0, I 0, I 0, I 0, Sl none 0 0, Sl none 0 0]], [Sg b1 0 [I c.queue.most, Sl a4 c.queue.wait.length c4, I c.batch, I c.every, I c.now, Sl a5 c.heads.length c5, Sl (At b3 o1) c.books.length c3]]]) (by simp only [e2]) (by rfl) ?_
  clear e2
  refine runL_nil ?_
  refine tq_owns [r5, r2, r1, [Sg b2 0 [I 0, Sl none 0 0, I 0, I 0, I 0, Sl none 0 0, Sl none 0 0]], [Sg b1 0 [I c.queue.most, Sl a4 c.queue.wait.length c4, I c.batch, I c.every, I c.now, Sl a5 c.heads.length c5, Sl (At b3 o1) c.books.length c3]]] (.cons _ (.cons_cons _ (.cons_cons _ (.cons_cons _ (.cons_cons _ (.cons_cons _ .slnil)))))) ?_
  exact tq_rnd (i + 1, aw, cw, r5, xw.set i x1, G4) ⟨(Mem.le_trans hle (Mem.le_trans hl3 hl4)), (by omega), hr5, ⟨by simp only [List.length_set]; exact hxw.1, set_take hxw.2 (by omega) hx1⟩, (by simp only [List.length_set]; exact hcw)⟩ (by (try dsimp only); omega)
 ·
  try simp only [BB] at h1
  refine tc_exit (tq_then_exit (tq_rnd_exit (tq_block_here (tq_then ?_))))
  refine tc_rbs [0,0,11] [(1, Pt b1 0), (2, Pt b2 0)] [rw, r2, r1, [Sg b2 0 [I 0, Sl none 0 0, I 0, I 0, I 0, Sl none 0 0, Sl none 0 0]], [Sg b1 0 [I c.queue.most, Sl a4 c.queue.wait.length c4, I c.batch, I c.every, I c.now, Sl a5 c.heads.length c5, Sl aw xw.length cw]]] ?_
  refine tc_rbs [10,9] [(2, Pt b2 0)] [rw, r2, r1, [Sg b2 0 [I c.queue.most, Sl a4 c.queue.wait.length c4, I c.batch, I c.every, I c.now, Sl a5 c.heads.length c5, Sl aw xw.length cw]], [Sg b1 0 [I c.queue.most, Sl a4 c.queue.wait.length c4, I c.batch, I c.every, I c.now, Sl a5 c.heads.length c5, Sl aw xw.length cw]]] ?_
  refine tc_ret ?_
  subst hcw
  refine tq_frzR (E := EAsk) 2 (hr1.mono (Mem.le_trans hl2 hle)) (by exact (hs1).fit) (fun G5 hl5 hs7 => ?_)
  refine tq_frzR (E := EHead) 1 (hr2.mono (Mem.le_trans hle hl5)) (by exact (hs2.mono hl1).fit) (fun G6 hl6 hs8 => ?_)
  refine tq_frzR (E := ESlEnt) 0 (hrw.mono (Mem.le_trans hl5 hl6)) (by simp only [ESlEnt]; omega) (fun G7 hl7 hs9 => ?_)
  have hf1 : c = (⟨c.queue, c.batch, c.every, c.now, c.heads, xw⟩ : ClerkD) := by
   have e_ : xw = c.books := take_eq_of hxw.1 hxw.2 (by omega); subst e_; rfl
  refine tq_ret [3] [.agg #[I c.queue.most, Sl a4 c.queue.wait.length c4, I c.batch, I c.every, I c.now, Sl a5 c.heads.length c5, Sl aw xw.length xw.length]] (bp_rows [] (.cons _ (.cons _ (.cons _ (.cons _ (.cons _ .slnil))))) (Mem.le_trans (Mem.le_trans (Mem.le_trans (Mem.le_trans (Mem.le_trans hl1 hl2) hle) hl5) hl6) hl7) ?_)
  rw [hf1]
  try dsimp only
  exact ⟨a4, c4, a5, c5, aw, rfl, w1, (hs7.mono (Mem.le_trans hl6 hl7)), w2, w3, w4, (hs8.mono hl7), hs9, rfl⟩
theorem clerkAsk_con (G : Mem) (vs_c : List Value) (c : ClerkD) (h_c : EClerk.R G vs_c c) (vs_a : List Value) (a : AskD) (h_a : EAsk.R G vs_a a)  : Con Tryz.prog 21 #[.agg vs_c.toArray, .agg vs_a.toArray] G [] (fun u G' L' => ∃ (a1 : Option Addr) (c2 : Nat) (a3 : Option Addr) (c4 : Nat) (a5 : Option Addr) (c6 : Nat), u = .tuple #[.agg #[I (((clerkAsk c a).1).queue.most), Sl a1 ((((clerkAsk c a).1).queue.wait).length) c2, I (((clerkAsk c a).1).batch), I (((clerkAsk c a).1).every), I (((clerkAsk c a).1).now), Sl a3 ((((clerkAsk c a).1).heads).length) c4, Sl a5 ((((clerkAsk c a).1).books).length) c6], I ((clerkAsk c a).2.1), I ((clerkAsk c a).2.2)] ∧ (-9223372036854775808 ≤ (((clerkAsk c a).1).queue.most) ∧ (((clerkAsk c a).1).queue.most) < 9223372036854775808) ∧ (RS EAsk G' a1 c2 (((clerkAsk c a).1).queue.wait)) ∧ (-9223372036854775808 ≤ (((clerkAsk c a).1).batch) ∧ (((clerkAsk c a).1).batch) < 9223372036854775808) ∧ (-9223372036854775808 ≤ (((clerkAsk c a).1).every) ∧ (((clerkAsk c a).1).every) < 9223372036854775808) ∧ (-9223372036854775808 ≤ (((clerkAsk c a).1).now) ∧ (((clerkAsk c a).1).now) < 9223372036854775808) ∧ (RS EHead G' a3 c4 (((clerkAsk c a).1).heads)) ∧ (RS ESlEnt G' a5 c6 (((clerkAsk c a).1).books)) ∧ (-9223372036854775808 ≤ ((clerkAsk c a).2.1) ∧ ((clerkAsk c a).2.1) < 9223372036854775808) ∧ L' = []) := by
 obtain ⟨a1, c1, a2, c2, a3, c3, rfl, w1, hs1, w2, w3, w4, hs2, hs3⟩ := h_c
 obtain ⟨rfl, w5, w6, w7, w8⟩ := h_a
 refine con_of Tryz.func21 76 [(0, .agg #[I c.queue.most, Sl a1 c.queue.wait.length c1, I c.batch, I c.every, I c.now, Sl a2 c.heads.length c2, Sl a3 c.books.length c3]), (1, .agg #[Sr a.name, Sr a.value, U a.n, U a.tag])] rfl (fun w0 G0 => ?_)
 refine tc_seq (tc_region ?_)
 refine runL_box 2 #[I c.queue.most, Sl a1 c.queue.wait.length c1, I c.batch, I c.every, I c.now, Sl a2 c.heads.length c2, Sl a3 c.books.length c3] 28 (fun b1 => ?_)
 refine runL_box 3 #[Sr a.name, Sr a.value, U a.n, U a.tag] 54 (fun b2 => ?_)
 refine runL_box 4 #[I 0, Sl none 0 0, I 0, I 0, I 0, Sl none 0 0, Sl none 0 0] 28 (fun b3 => ?_)
 refine runL_b [0,0] [(2, Pt b1 0), (3, Pt b2 0), (4, Pt b3 0)] (runL_nil (tq_then (tc_seq (tc_seq (tc_region ?_)))))
 refine runL_b [6] [(2, Pt b1 0), (3, Pt b2 0), (4, Pt b3 0), (13, .agg #[I c.queue.most, Sl a1 c.queue.wait.length c1, I c.batch, I c.every, I c.now, Sl a2 c.heads.length c2, Sl a3 c.books.length c3])] ?_
 refine runL_callV 14 (I (clerkCheck c)) (clerkCheck_con G [I c.queue.most, Sl a1 c.queue.wait.length c1, I c.batch, I c.every, I c.now, Sl a2 c.heads.length c2, Sl a3 c.books.length c3] c (⟨a1, c1, a2, c2, a3, c3, rfl, w1, hs1, w2, w3, w4, hs2, hs3⟩)) ?_
 refine runL_b [0] [(2, Pt b1 0), (3, Pt b2 0), (4, Pt b3 0), (7, I (clerkCheck c))] (runL_nil (tq_then ?_))
 refine tc_rb [0,0] [(2, Pt b1 0), (3, Pt b2 0), (4, Pt b3 0), (7, I (clerkCheck c)), (16, Bo (!decide (clerkCheck c = 0)))] ?_
 refine tc_cond (!decide (clerkCheck c = 0)) (fun h1 => ?_) (fun h1 => ?_)
 ·
  try simp only [BB] at h1
  refine tc_rb [0,0,3,0,0] [(4, Pt b3 0), (5, I 0), (6, I (clerkCheck c))] (tc_ret (tq_then_ret ?_))
  have hf1 : clerkAsk c a = ((⟨(⟨0, []⟩ : QueueD), 0, 0, 0, [], []⟩ : ClerkD), 0, clerkCheck c) := by
   unfold clerkAsk clerkZ; first | (rw [if_pos (by assumption)]; done) | (rw [if_neg (by simp_all)]; simp_all; done) | (rw [if_neg (by simp_all)]; simp_all; grind)
  refine tq_ret [0, 0, 0] [.agg #[I 0, Sl none 0 0, I 0, I 0, I 0, Sl none 0 0, Sl none 0 0], I 0, I (clerkCheck c)] (bp_rows [] (.cons _ (.cons _ (.cons _ .slnil))) (Mem.le_refl _) ?_)
  rw [hf1]
  try dsimp only
  exact ⟨none, 0, none, 0, none, 0, rfl, (by first | (first | assumption | omega | (have q_ := ck_bd (by assumption); have q10_ := tmod_bd (n := c.now) (e := c.every) (by omega) (by omega); have q11_ := qw_bd (queuePut c.queue a).2.1 c.batch c.every; omega) | (simp; done) | (simp; omega)) | (dsimp only; first | assumption | omega | (have q_ := ck_bd (by assumption); have q10_ := tmod_bd (n := c.now) (e := c.every) (by omega) (by omega); have q11_ := qw_bd (queuePut c.queue a).2.1 c.batch c.every; omega) | (simp; done) | (simp; omega))), (RS.nil' EAsk G), (by first | (first | assumption | omega | (have q_ := ck_bd (by assumption); have q10_ := tmod_bd (n := c.now) (e := c.every) (by omega) (by omega); have q11_ := qw_bd (queuePut c.queue a).2.1 c.batch c.every; omega) | (simp; done) | (simp; omega)) | (dsimp only; first | assumption | omega | (have q_ := ck_bd (by assumption); have q10_ := tmod_bd (n := c.now) (e := c.every) (by omega) (by omega); have q11_ := qw_bd (queuePut c.queue a).2.1 c.batch c.every; omega) | (simp; done) | (simp; omega))), (by first | (first | assumption | omega | (have q_ := ck_bd (by assumption); have q10_ := tmod_bd (n := c.now) (e := c.every) (by omega) (by omega); have q11_ := qw_bd (queuePut c.queue a).2.1 c.batch c.every; omega) | (simp; done) | (simp; omega)) | (dsimp only; first | assumption | omega | (have q_ := ck_bd (by assumption); have q10_ := tmod_bd (n := c.now) (e := c.every) (by omega) (by omega); have q11_ := qw_bd (queuePut c.queue a).2.1 c.batch c.every; omega) | (simp; done) | (simp; omega))), (by first | (first | assumption | omega | (have q_ := ck_bd (by assumption); have q10_ := tmod_bd (n := c.now) (e := c.every) (by omega) (by omega); have q11_ := qw_bd (queuePut c.queue a).2.1 c.batch c.every; omega) | (simp; done) | (simp; omega)) | (dsimp only; first | assumption | omega | (have q_ := ck_bd (by assumption); have q10_ := tmod_bd (n := c.now) (e := c.every) (by omega) (by omega); have q11_ := qw_bd (queuePut c.queue a).2.1 c.batch c.every; omega) | (simp; done) | (simp; omega))), (RS.nil' EHead G), (RS.nil' ESlEnt G), (by first | (first | assumption | omega | (have q_ := ck_bd (by assumption); have q10_ := tmod_bd (n := c.now) (e := c.every) (by omega) (by omega); have q11_ := qw_bd (queuePut c.queue a).2.1 c.batch c.every; omega) | (simp; done) | (simp; omega)) | (dsimp only; first | assumption | omega | (have q_ := ck_bd (by assumption); have q10_ := tmod_bd (n := c.now) (e := c.every) (by omega) (by omega); have q11_ := qw_bd (queuePut c.queue a).2.1 c.batch c.every; omega) | (simp; done) | (simp; omega))), rfl⟩
 ·
  try simp only [BB] at h1
  refine tc_skip (tq_then (tc_seq (tc_region ?_)))
  refine runL_b [0,6,4] [(2, Pt b1 0), (3, Pt b2 0), (4, Pt b3 0), (21, .agg #[I c.queue.most, Sl a1 c.queue.wait.length c1]), (22, .agg #[Sr a.name, Sr a.value, U a.n, U a.tag])] ?_
  refine runL_callR 23 (queuePut_con G [I c.queue.most, Sl a1 c.queue.wait.length c1] c.queue (⟨a1, c1, rfl, w1, hs1⟩) [Sr a.name, Sr a.value, U a.n, U a.tag] a (⟨rfl, w5, w6, w7, w8⟩)) (fun v G1 L1 hl1 hp => ?_)
  obtain ⟨a4, c4, rfl, w9, hs4, rfl⟩ := hp
  refine runL_b [0,0,0,0] [(2, Pt b1 0), (3, Pt b2 0), (4, Pt b3 0), (24, .agg #[I (((queuePut c.queue a).1).most), Sl a4 ((((queuePut c.queue a).1).wait).length) c4]), (25, I ((queuePut c.queue a).2.1)), (26, I ((queuePut c.queue a).2.2))] ?_
  refine runL_box 8 #[I 0, Sl none 0 0] 24 (fun b4 => ?_)
  refine runL_bs [3,0,0] [(2, Pt b1 0), (3, Pt b2 0), (4, Pt b3 0), (8, Pt b4 0), (9, I ((queuePut c.queue a).2.1)), (10, I ((queuePut c.queue a).2.2))] [[Sg b4 0 [I (((queuePut c.queue a).1).most), Sl a4 ((((queuePut c.queue a).1).wait).length) c4]], [Sg b3 0 [I 0, Sl none 0 0, I 0, I 0, I 0, Sl none 0 0, Sl none 0 0]], [Sg b2 0 [Sr a.name, Sr a.value, U a.n, U a.tag]], [Sg b1 0 [I c.queue.most, Sl a1 c.queue.wait.length c1, I c.batch, I c.every, I c.now, Sl a2 c.heads.length c2, Sl a3 c.books.length c3]]] (runL_nil (tq_then (tc_seq (tc_block (tc_seq (tc_region ?_))))))
  refine runL_b [0,0,0] [(2, Pt b1 0), (3, Pt b2 0), (4, Pt b3 0), (8, Pt b4 0), (9, I ((queuePut c.queue a).2.1)), (10, I ((queuePut c.queue a).2.2)), (30, Bo (!decide ((queuePut c.queue a).2.2 = 0)))] ?_
  refine runL_b2 (!decide ((queuePut c.queue a).2.2 = 0)) (fun bb => [(2, Pt b1 0), (3, Pt b2 0), (4, Pt b3 0), (8, Pt b4 0), (9, I ((queuePut c.queue a).2.1)), (10, I ((queuePut c.queue a).2.2)), (30, Bo bb)]) [0,0,0] [1,1,0] (fun bb => [(2, Pt b1 0), (3, Pt b2 0), (4, Pt b3 0), (8, Pt b4 0), (9, I ((queuePut c.queue a).2.1)), (10, I ((queuePut c.queue a).2.2)), (33, Bo (bb && (!decide ((queuePut c.queue a).2.2 = 7))))]) ?_
  refine runL_b [0] [(2, Pt b1 0), (3, Pt b2 0), (4, Pt b3 0), (8, Pt b4 0), (9, I ((queuePut c.queue a).2.1)), (10, I ((queuePut c.queue a).2.2)), (27, Bo ((!decide ((queuePut c.queue a).2.2 = 0)) && (!decide ((queuePut c.queue a).2.2 = 7))))] (runL_nil (tq_then ?_))
  refine tc_cond ((!decide ((queuePut c.queue a).2.2 = 0)) && (!decide ((queuePut c.queue a).2.2 = 7))) (fun h2 => ?_) (fun h2 => ?_)
  ·
   try simp only [BB] at h2
   refine tc_rb [0,0,5,0,0] [(4, Pt b3 0), (5, I 0), (6, I ((queuePut c.queue a).2.2))] (tc_ret (tq_block_ret (tq_then_ret ?_)))
   have hf2 : clerkAsk c a = ((⟨(⟨0, []⟩ : QueueD), 0, 0, 0, [], []⟩ : ClerkD), 0, (queuePut c.queue a).2.2) := by
    unfold clerkAsk clerkZ; first | (rw [if_pos (by assumption)]; done) | (rw [if_neg (by simp_all)]; simp_all; done) | (rw [if_neg (by simp_all)]; simp_all; grind)
   refine tq_ret [1, 0, 0] [.agg #[I 0, Sl none 0 0, I 0, I 0, I 0, Sl none 0 0, Sl none 0 0], I 0, I ((queuePut c.queue a).2.2)] (bp_rows [] (.cons _ (.cons _ (.cons _ (.cons _ .slnil)))) hl1 ?_)
   rw [hf2]
   try dsimp only
   exact ⟨none, 0, none, 0, none, 0, rfl, (by first | (first | assumption | omega | (have q_ := ck_bd (by assumption); have q10_ := tmod_bd (n := c.now) (e := c.every) (by omega) (by omega); have q11_ := qw_bd (queuePut c.queue a).2.1 c.batch c.every; omega) | (simp; done) | (simp; omega)) | (dsimp only; first | assumption | omega | (have q_ := ck_bd (by assumption); have q10_ := tmod_bd (n := c.now) (e := c.every) (by omega) (by omega); have q11_ := qw_bd (queuePut c.queue a).2.1 c.batch c.every; omega) | (simp; done) | (simp; omega))), (RS.nil' EAsk G1), (by first | (first | assumption | omega | (have q_ := ck_bd (by assumption); have q10_ := tmod_bd (n := c.now) (e := c.every) (by omega) (by omega); have q11_ := qw_bd (queuePut c.queue a).2.1 c.batch c.every; omega) | (simp; done) | (simp; omega)) | (dsimp only; first | assumption | omega | (have q_ := ck_bd (by assumption); have q10_ := tmod_bd (n := c.now) (e := c.every) (by omega) (by omega); have q11_ := qw_bd (queuePut c.queue a).2.1 c.batch c.every; omega) | (simp; done) | (simp; omega))), (by first | (first | assumption | omega | (have q_ := ck_bd (by assumption); have q10_ := tmod_bd (n := c.now) (e := c.every) (by omega) (by omega); have q11_ := qw_bd (queuePut c.queue a).2.1 c.batch c.every; omega) | (simp; done) | (simp; omega)) | (dsimp only; first | assumption | omega | (have q_ := ck_bd (by assumption); have q10_ := tmod_bd (n := c.now) (e := c.every) (by omega) (by omega); have q11_ := qw_bd (queuePut c.queue a).2.1 c.batch c.every; omega) | (simp; done) | (simp; omega))), (by first | (first | assumption | omega | (have q_ := ck_bd (by assumption); have q10_ := tmod_bd (n := c.now) (e := c.every) (by omega) (by omega); have q11_ := qw_bd (queuePut c.queue a).2.1 c.batch c.every; omega) | (simp; done) | (simp; omega)) | (dsimp only; first | assumption | omega | (have q_ := ck_bd (by assumption); have q10_ := tmod_bd (n := c.now) (e := c.every) (by omega) (by omega); have q11_ := qw_bd (queuePut c.queue a).2.1 c.batch c.every; omega) | (simp; done) | (simp; omega))), (RS.nil' EHead G1), (RS.nil' ESlEnt G1), (by first | (first | assumption | omega | (have q_ := ck_bd (by assumption); have q10_ := tmod_bd (n := c.now) (e := c.every) (by omega) (by omega); have q11_ := qw_bd (queuePut c.queue a).2.1 c.batch c.every; omega) | (simp; done) | (simp; omega)) | (dsimp only; first | assumption | omega | (have q_ := ck_bd (by assumption); have q10_ := tmod_bd (n := c.now) (e := c.every) (by omega) (by omega); have q11_ := qw_bd (queuePut c.queue a).2.1 c.batch c.every; omega) | (simp; done) | (simp; omega))), rfl⟩
  ·
   try simp only [BB] at h2
   refine tc_seq (tc_region ?_)
   refine runL_b [8] [(2, Pt b1 0), (3, Pt b2 0), (4, Pt b3 0), (8, Pt b4 0), (9, I ((queuePut c.queue a).2.1)), (10, I ((queuePut c.queue a).2.2)), (37, .agg #[I c.queue.most, Sl a1 c.queue.wait.length c1, I c.batch, I c.every, I c.now, Sl a2 c.heads.length c2, Sl a3 c.books.length c3])] ?_
   refine runL_callV 38 (Bo (closedB c)) (closedB_con G1 [I c.queue.most, Sl a1 c.queue.wait.length c1, I c.batch, I c.every, I c.now, Sl a2 c.heads.length c2, Sl a3 c.books.length c3] c (⟨a1, c1, a2, c2, a3, c3, rfl, w1, (hs1.mono hl1), w2, w3, w4, (hs2.mono hl1), (hs3.mono hl1)⟩)) ?_
   refine runL_b [0] [(2, Pt b1 0), (3, Pt b2 0), (4, Pt b3 0), (8, Pt b4 0), (9, I ((queuePut c.queue a).2.1)), (10, I ((queuePut c.queue a).2.2)), (36, Bo (closedB c))] (runL_nil (tq_then ?_))
   refine tc_cond (closedB c) (fun h3 => ?_) (fun h3 => ?_)
   ·
    try simp only [BB] at h3
    refine tc_rb [0,5,0,0] [(4, Pt b3 0), (5, I 0), (6, I 9)] (tc_ret (tq_block_ret (tq_then_ret ?_)))
    have hf3 : clerkAsk c a = ((⟨(⟨0, []⟩ : QueueD), 0, 0, 0, [], []⟩ : ClerkD), 0, 9) := by
     unfold clerkAsk clerkZ; first | (rw [if_pos (by assumption)]; done) | (rw [if_neg (by simp_all)]; simp_all; done) | (rw [if_neg (by simp_all)]; simp_all; grind)
    refine tq_ret [1, 0, 0] [.agg #[I 0, Sl none 0 0, I 0, I 0, I 0, Sl none 0 0, Sl none 0 0], I 0, I 9] (bp_rows [] (.cons _ (.cons _ (.cons _ (.cons _ .slnil)))) hl1 ?_)
    rw [hf3]
    try dsimp only
    exact ⟨none, 0, none, 0, none, 0, rfl, (by first | (first | assumption | omega | (have q_ := ck_bd (by assumption); have q10_ := tmod_bd (n := c.now) (e := c.every) (by omega) (by omega); have q11_ := qw_bd (queuePut c.queue a).2.1 c.batch c.every; omega) | (simp; done) | (simp; omega)) | (dsimp only; first | assumption | omega | (have q_ := ck_bd (by assumption); have q10_ := tmod_bd (n := c.now) (e := c.every) (by omega) (by omega); have q11_ := qw_bd (queuePut c.queue a).2.1 c.batch c.every; omega) | (simp; done) | (simp; omega))), (RS.nil' EAsk G1), (by first | (first | assumption | omega | (have q_ := ck_bd (by assumption); have q10_ := tmod_bd (n := c.now) (e := c.every) (by omega) (by omega); have q11_ := qw_bd (queuePut c.queue a).2.1 c.batch c.every; omega) | (simp; done) | (simp; omega)) | (dsimp only; first | assumption | omega | (have q_ := ck_bd (by assumption); have q10_ := tmod_bd (n := c.now) (e := c.every) (by omega) (by omega); have q11_ := qw_bd (queuePut c.queue a).2.1 c.batch c.every; omega) | (simp; done) | (simp; omega))), (by first | (first | assumption | omega | (have q_ := ck_bd (by assumption); have q10_ := tmod_bd (n := c.now) (e := c.every) (by omega) (by omega); have q11_ := qw_bd (queuePut c.queue a).2.1 c.batch c.every; omega) | (simp; done) | (simp; omega)) | (dsimp only; first | assumption | omega | (have q_ := ck_bd (by assumption); have q10_ := tmod_bd (n := c.now) (e := c.every) (by omega) (by omega); have q11_ := qw_bd (queuePut c.queue a).2.1 c.batch c.every; omega) | (simp; done) | (simp; omega))), (by first | (first | assumption | omega | (have q_ := ck_bd (by assumption); have q10_ := tmod_bd (n := c.now) (e := c.every) (by omega) (by omega); have q11_ := qw_bd (queuePut c.queue a).2.1 c.batch c.every; omega) | (simp; done) | (simp; omega)) | (dsimp only; first | assumption | omega | (have q_ := ck_bd (by assumption); have q10_ := tmod_bd (n := c.now) (e := c.every) (by omega) (by omega); have q11_ := qw_bd (queuePut c.queue a).2.1 c.batch c.every; omega) | (simp; done) | (simp; omega))), (RS.nil' EHead G1), (RS.nil' ESlEnt G1), (by first | (first | assumption | omega | (have q_ := ck_bd (by assumption); have q10_ := tmod_bd (n := c.now) (e := c.every) (by omega) (by omega); have q11_ := qw_bd (queuePut c.queue a).2.1 c.batch c.every; omega) | (simp; done) | (simp; omega)) | (dsimp only; first | assumption | omega | (have q_ := ck_bd (by assumption); have q10_ := tmod_bd (n := c.now) (e := c.every) (by omega) (by omega); have q11_ := qw_bd (queuePut c.queue a).2.1 c.batch c.every; omega) | (simp; done) | (simp; omega))), rfl⟩
   ·
    try simp only [BB] at h3
    refine tc_seq (tc_region ?_)
    refine runL_b [0,0,0] [(2, Pt b1 0), (3, Pt b2 0), (4, Pt b3 0), (8, Pt b4 0), (9, I ((queuePut c.queue a).2.1)), (43, Bo (decide ((queuePut c.queue a).2.2 = 7)))] ?_
    refine runL_cases (fun bb => [(2, Pt b1 0), (3, Pt b2 0), (4, Pt b3 0), (8, Pt b4 0), (9, I ((queuePut c.queue a).2.1)), (43, Bo bb)]) (decide ((queuePut c.queue a).2.2 = 7)) (fun h4 => ?_) (fun h4 => ?_)
    ·
     try simp only [BB] at h4
     refine runL_b [1,1,1,1,1,1,0,0] [(2, Pt b1 0), (4, Pt b3 0), (8, Pt b4 0), (9, I ((queuePut c.queue a).2.1)), (40, Bo true)] (runL_nil (tq_then ?_))
     refine tc_cond_true ?_
     refine tc_rb [0,5,0,0] [(4, Pt b3 0), (5, I 0), (6, I 7)] (tc_ret (tq_block_ret (tq_then_ret ?_)))
     have hf4 : clerkAsk c a = ((⟨(⟨0, []⟩ : QueueD), 0, 0, 0, [], []⟩ : ClerkD), 0, 7) := by
      unfold clerkAsk clerkZ; first | (rw [if_pos (by assumption)]; done) | (rw [if_neg (by simp_all)]; simp_all; done) | (rw [if_neg (by simp_all)]; simp_all; grind)
     refine tq_ret [1, 0, 0] [.agg #[I 0, Sl none 0 0, I 0, I 0, I 0, Sl none 0 0, Sl none 0 0], I 0, I 7] (bp_rows [] (.cons _ (.cons _ (.cons _ (.cons _ .slnil)))) hl1 ?_)
     rw [hf4]
     try dsimp only
     exact ⟨none, 0, none, 0, none, 0, rfl, (by first | (first | assumption | omega | (have q_ := ck_bd (by assumption); have q10_ := tmod_bd (n := c.now) (e := c.every) (by omega) (by omega); have q11_ := qw_bd (queuePut c.queue a).2.1 c.batch c.every; omega) | (simp; done) | (simp; omega)) | (dsimp only; first | assumption | omega | (have q_ := ck_bd (by assumption); have q10_ := tmod_bd (n := c.now) (e := c.every) (by omega) (by omega); have q11_ := qw_bd (queuePut c.queue a).2.1 c.batch c.every; omega) | (simp; done) | (simp; omega))), (RS.nil' EAsk G1), (by first | (first | assumption | omega | (have q_ := ck_bd (by assumption); have q10_ := tmod_bd (n := c.now) (e := c.every) (by omega) (by omega); have q11_ := qw_bd (queuePut c.queue a).2.1 c.batch c.every; omega) | (simp; done) | (simp; omega)) | (dsimp only; first | assumption | omega | (have q_ := ck_bd (by assumption); have q10_ := tmod_bd (n := c.now) (e := c.every) (by omega) (by omega); have q11_ := qw_bd (queuePut c.queue a).2.1 c.batch c.every; omega) | (simp; done) | (simp; omega))), (by first | (first | assumption | omega | (have q_ := ck_bd (by assumption); have q10_ := tmod_bd (n := c.now) (e := c.every) (by omega) (by omega); have q11_ := qw_bd (queuePut c.queue a).2.1 c.batch c.every; omega) | (simp; done) | (simp; omega)) | (dsimp only; first | assumption | omega | (have q_ := ck_bd (by assumption); have q10_ := tmod_bd (n := c.now) (e := c.every) (by omega) (by omega); have q11_ := qw_bd (queuePut c.queue a).2.1 c.batch c.every; omega) | (simp; done) | (simp; omega))), (by first | (first | assumption | omega | (have q_ := ck_bd (by assumption); have q10_ := tmod_bd (n := c.now) (e := c.every) (by omega) (by omega); have q11_ := qw_bd (queuePut c.queue a).2.1 c.batch c.every; omega) | (simp; done) | (simp; omega)) | (dsimp only; first | assumption | omega | (have q_ := ck_bd (by assumption); have q10_ := tmod_bd (n := c.now) (e := c.every) (by omega) (by omega); have q11_ := qw_bd (queuePut c.queue a).2.1 c.batch c.every; omega) | (simp; done) | (simp; omega))), (RS.nil' EHead G1), (RS.nil' ESlEnt G1), (by first | (first | assumption | omega | (have q_ := ck_bd (by assumption); have q10_ := tmod_bd (n := c.now) (e := c.every) (by omega) (by omega); have q11_ := qw_bd (queuePut c.queue a).2.1 c.batch c.every; omega) | (simp; done) | (simp; omega)) | (dsimp only; first | assumption | omega | (have q_ := ck_bd (by assumption); have q10_ := tmod_bd (n := c.now) (e := c.every) (by omega) (by omega); have q11_ := qw_bd (queuePut c.queue a).2.1 c.batch c.every; omega) | (simp; done) | (simp; omega))), rfl⟩
    ·
     try simp only [BB] at h4
     refine runL_b [8,0,6] [(2, Pt b1 0), (4, Pt b3 0), (8, Pt b4 0), (9, I ((queuePut c.queue a).2.1)), (43, Bo false), (44, .agg #[I c.queue.most, Sl a1 c.queue.wait.length c1, I c.batch, I c.every, I c.now, Sl a2 c.heads.length c2, Sl a3 c.books.length c3]), (46, Sr a.name)] ?_
     refine runL_bsl 47 1 #[Sr a.name] 9 (fun b5 => ?_)
     refine runL_frz1 (b := b5) (o := 0) (cs := [Sr a.name]) 0 (fun G2 hl2 hz1 => ?_)
     have hs5 : RS ES G2 (At b5 0) 1 [a.name] := RS.lit [[Sr a.name]] [a.name] ⟨⟨rfl, w5⟩, trivial⟩ hz1 (Nat.le_of_ble_eq_true rfl) (Nat.le_of_ble_eq_true rfl)
     refine runL_callV 48 (I (clerkNames c ([a.name]))) (clerkNames_con G2 [I c.queue.most, Sl a1 c.queue.wait.length c1, I c.batch, I c.every, I c.now, Sl a2 c.heads.length c2, Sl a3 c.books.length c3] c (⟨a1, c1, a2, c2, a3, c3, rfl, w1, (hs1.mono (Mem.le_trans hl1 hl2)), w2, w3, w4, (hs2.mono (Mem.le_trans hl1 hl2)), (hs3.mono (Mem.le_trans hl1 hl2))⟩) (At b5 0) 1 ([a.name]) hs5 (by first | assumption | omega | (simp; done) | (have q_ := ck_bd (by assumption); (try dsimp only); omega)) (by first | assumption | omega | (simp; done) | (have q_ := ck_bd (by assumption); (try dsimp only); omega)) (by first | assumption | omega | (simp; done) | (have q_ := ck_bd (by assumption); (try dsimp only); omega)) (by first | assumption | omega | (simp; done) | (have q_ := ck_bd (by assumption); (try dsimp only); omega)) (by first | assumption | omega | (simp; done) | (have q_ := ck_bd (by assumption); (try dsimp only); omega))) ?_
     refine runL_b [0,0,0] [(2, Pt b1 0), (4, Pt b3 0), (8, Pt b4 0), (9, I ((queuePut c.queue a).2.1)), (40, Bo (decide (clerkNames c ([a.name]) > 24)))] (runL_nil (tq_then ?_))
     refine tc_cond (decide (clerkNames c ([a.name]) > 24)) (fun h5 => ?_) (fun h5 => ?_)
     ·
      try simp only [BB] at h5
      refine tc_rb [0,7,0,0] [(4, Pt b3 0), (5, I 0), (6, I 7)] (tc_ret (tq_block_ret (tq_then_ret ?_)))
      have hf5 : clerkAsk c a = ((⟨(⟨0, []⟩ : QueueD), 0, 0, 0, [], []⟩ : ClerkD), 0, 7) := by
       unfold clerkAsk clerkZ; first | (rw [if_pos (by assumption)]; done) | (rw [if_neg (by simp_all)]; simp_all; done) | (rw [if_neg (by simp_all)]; simp_all; grind)
      refine tq_ret [2, 0, 0] [.agg #[I 0, Sl none 0 0, I 0, I 0, I 0, Sl none 0 0, Sl none 0 0], I 0, I 7] (bp_rows [] (.cons _ (.cons _ (.cons _ (.cons _ (.cons _ .slnil))))) (Mem.le_trans hl1 hl2) ?_)
      rw [hf5]
      try dsimp only
      exact ⟨none, 0, none, 0, none, 0, rfl, (by first | (first | assumption | omega | (have q_ := ck_bd (by assumption); have q10_ := tmod_bd (n := c.now) (e := c.every) (by omega) (by omega); have q11_ := qw_bd (queuePut c.queue a).2.1 c.batch c.every; omega) | (simp; done) | (simp; omega)) | (dsimp only; first | assumption | omega | (have q_ := ck_bd (by assumption); have q10_ := tmod_bd (n := c.now) (e := c.every) (by omega) (by omega); have q11_ := qw_bd (queuePut c.queue a).2.1 c.batch c.every; omega) | (simp; done) | (simp; omega))), (RS.nil' EAsk G2), (by first | (first | assumption | omega | (have q_ := ck_bd (by assumption); have q10_ := tmod_bd (n := c.now) (e := c.every) (by omega) (by omega); have q11_ := qw_bd (queuePut c.queue a).2.1 c.batch c.every; omega) | (simp; done) | (simp; omega)) | (dsimp only; first | assumption | omega | (have q_ := ck_bd (by assumption); have q10_ := tmod_bd (n := c.now) (e := c.every) (by omega) (by omega); have q11_ := qw_bd (queuePut c.queue a).2.1 c.batch c.every; omega) | (simp; done) | (simp; omega))), (by first | (first | assumption | omega | (have q_ := ck_bd (by assumption); have q10_ := tmod_bd (n := c.now) (e := c.every) (by omega) (by omega); have q11_ := qw_bd (queuePut c.queue a).2.1 c.batch c.every; omega) | (simp; done) | (simp; omega)) | (dsimp only; first | assumption | omega | (have q_ := ck_bd (by assumption); have q10_ := tmod_bd (n := c.now) (e := c.every) (by omega) (by omega); have q11_ := qw_bd (queuePut c.queue a).2.1 c.batch c.every; omega) | (simp; done) | (simp; omega))), (by first | (first | assumption | omega | (have q_ := ck_bd (by assumption); have q10_ := tmod_bd (n := c.now) (e := c.every) (by omega) (by omega); have q11_ := qw_bd (queuePut c.queue a).2.1 c.batch c.every; omega) | (simp; done) | (simp; omega)) | (dsimp only; first | assumption | omega | (have q_ := ck_bd (by assumption); have q10_ := tmod_bd (n := c.now) (e := c.every) (by omega) (by omega); have q11_ := qw_bd (queuePut c.queue a).2.1 c.batch c.every; omega) | (simp; done) | (simp; omega))), (RS.nil' EHead G2), (RS.nil' ESlEnt G2), (by first | (first | assumption | omega | (have q_ := ck_bd (by assumption); have q10_ := tmod_bd (n := c.now) (e := c.every) (by omega) (by omega); have q11_ := qw_bd (queuePut c.queue a).2.1 c.batch c.every; omega) | (simp; done) | (simp; omega)) | (dsimp only; first | assumption | omega | (have q_ := ck_bd (by assumption); have q10_ := tmod_bd (n := c.now) (e := c.every) (by omega) (by omega); have q11_ := qw_bd (queuePut c.queue a).2.1 c.batch c.every; omega) | (simp; done) | (simp; omega))), rfl⟩
     ·
      try simp only [BB] at h5
      refine tc_skip (tq_block (tq_then (tc_seq (tc_region ?_))))
      refine runL_b [10] [(2, Pt b1 0), (4, Pt b3 0), (8, Pt b4 0), (9, I ((queuePut c.queue a).2.1)), (52, .agg #[I c.queue.most, Sl a1 c.queue.wait.length c1, I c.batch, I c.every, I c.now, Sl a2 c.heads.length c2, Sl a3 c.books.length c3])] ?_
      refine runL_callR 53 (copiedC_con G2 [I c.queue.most, Sl a1 c.queue.wait.length c1, I c.batch, I c.every, I c.now, Sl a2 c.heads.length c2, Sl a3 c.books.length c3] c (⟨a1, c1, a2, c2, a3, c3, rfl, w1, (hs1.mono (Mem.le_trans hl1 hl2)), w2, w3, w4, (hs2.mono (Mem.le_trans hl1 hl2)), (hs3.mono (Mem.le_trans hl1 hl2))⟩) (by first | assumption | omega | (simp; done) | (have q_ := ck_bd (by assumption); (try dsimp only); omega))) (fun v G3 L1 hl3 hp => ?_)
      obtain ⟨a5, c5, a6, c6, a7, rfl, w10, hs6, w11, w12, w13, hs7, hs8, rfl⟩ := hp
      refine runL_bs [11] [(2, Pt b1 0), (4, Pt b3 0), (8, Pt b4 0), (9, I ((queuePut c.queue a).2.1))] [[], [Sg b4 0 [I (((queuePut c.queue a).1).most), Sl a4 ((((queuePut c.queue a).1).wait).length) c4]], [Sg b3 0 [I 0, Sl none 0 0, I 0, I 0, I 0, Sl none 0 0, Sl none 0 0]], [Sg b2 0 [Sr a.name, Sr a.value, U a.n, U a.tag]], [Sg b1 0 [I c.queue.most, Sl a5 c.queue.wait.length c5, I c.batch, I c.every, I c.now, Sl a6 c.heads.length c6, Sl a7 c.books.length c.books.length]]] (runL_nil (tq_then ?_))
      refine tc_rbs [4,0,11] [(2, Pt b1 0), (4, Pt b3 0), (9, I ((queuePut c.queue a).2.1))] [[], [Sg b4 0 [I (((queuePut c.queue a).1).most), Sl a4 ((((queuePut c.queue a).1).wait).length) c4]], [Sg b3 0 [I 0, Sl none 0 0, I 0, I 0, I 0, Sl none 0 0, Sl none 0 0]], [Sg b2 0 [Sr a.name, Sr a.value, U a.n, U a.tag]], [Sg b1 0 [I (((queuePut c.queue a).1).most), Sl a4 ((((queuePut c.queue a).1).wait).length) c4, I c.batch, I c.every, I c.now, Sl a6 c.heads.length c6, Sl a7 c.books.length c.books.length]]] ?_
      refine tc_seq (tc_region ?_)
      refine runL_b [0,0,10,0,10] [(2, Pt b1 0), (4, Pt b3 0), (57, I ((queuePut c.queue a).2.1)), (59, I c.batch), (61, I c.every)] ?_
      refine runL_callV 62 (.tuple #[I ((queueWait ((queuePut c.queue a).2.1) c.batch c.every).1), I ((queueWait ((queuePut c.queue a).2.1) c.batch c.every).2)]) (queueWait_con G3 ((queuePut c.queue a).2.1) c.batch c.every) ?_
      refine runL_b [0,0,0,0,0] [(2, Pt b1 0), (4, Pt b3 0), (11, I ((queueWait ((queuePut c.queue a).2.1) c.batch c.every).1))] (runL_nil (tq_then (tc_seq ?_)))
      have e1 : IntKind.i64.wrap (c.now - ((c.now).tmod c.every)) = c.now - ((c.now).tmod c.every) := IntWalk.i64_in _ (by first | omega | (have q_ := ck_bd (by assumption); have q10_ := tmod_bd (n := c.now) (e := c.every) (by omega) (by omega); have q11_ := qw_bd (queuePut c.queue a).2.1 c.batch c.every; omega))
      have e2 : IntKind.i64.wrap ((c.now - ((c.now).tmod c.every)) + ((queueWait ((queuePut c.queue a).2.1) c.batch c.every).1)) = (c.now - ((c.now).tmod c.every)) + ((queueWait ((queuePut c.queue a).2.1) c.batch c.every).1) := IntWalk.i64_in _ (by first | omega | (have q_ := ck_bd (by assumption); have q10_ := tmod_bd (n := c.now) (e := c.every) (by omega) (by omega); have q11_ := qw_bd (queuePut c.queue a).2.1 c.batch c.every; omega))
      refine tc_draw [11] ?_
      refine dr_V [(0, .agg #[I (((queuePut c.queue a).1).most), Sl a4 ((((queuePut c.queue a).1).wait).length) c4, I c.batch, I c.every, I c.now, Sl a6 c.heads.length c6, Sl a7 c.books.length c.books.length]), (1, Pt b1 4), (2, I c.now), (3, Pt b1 4), (4, I c.now), (5, Pt b1 3), (6, I c.every), (7, I ((c.now).tmod c.every)), (8, I (c.now - ((c.now).tmod c.every))), (9, I ((queueWait ((queuePut c.queue a).2.1) c.batch c.every).1)), (10, I ((c.now - ((c.now).tmod c.every)) + ((queueWait ((queuePut c.queue a).2.1) c.batch c.every).1)))] ?_
      refine dr_mid [] [(0,10), (1,0), (2,10), (3,0), (4,10), (5,0), (6,10), (9,0)] [7, 8, 10] [11] (List.forall_mem_cons.2 ⟨?_, (List.forall_mem_cons.2 ⟨?_, (List.forall_mem_cons.2 ⟨?_, List.forall_mem_nil _⟩)⟩)⟩) (List.forall_mem_cons.2 ⟨?_, List.forall_mem_nil _⟩)
      ·
       refine stab_of 7 72 (I ((c.now).tmod c.every)) [(69, I c.now), (71, I c.every)] (fun X => ?_)
       exact runL_div (k := .i64) (x := c.now) (y := c.every) 72 false ((c.now).tmod c.every) (by first | omega | (have q_ := ck_bd (by assumption); have q10_ := tmod_bd (n := c.now) (e := c.every) (by omega) (by omega); have q11_ := qw_bd (queuePut c.queue a).2.1 c.batch c.every; omega)) rfl stab_end
      ·
       refine stab_of 8 73 (I (c.now - ((c.now).tmod c.every))) [(67, I c.now), (72, I ((c.now).tmod c.every))] (fun X => ?_)
       exact runL_p1 73 (I (IntKind.i64.wrap (c.now - ((c.now).tmod c.every)))) (I (c.now - ((c.now).tmod c.every))) (by simp only [e1]) stab_end
      ·
       refine stab_of 10 75 (I ((c.now - ((c.now).tmod c.every)) + ((queueWait ((queuePut c.queue a).2.1) c.batch c.every).1))) [(73, I (c.now - ((c.now).tmod c.every))), (74, I ((queueWait ((queuePut c.queue a).2.1) c.batch c.every).1))] (fun X => ?_)
       exact runL_p1 75 (I (IntKind.i64.wrap ((c.now - ((c.now).tmod c.every)) + ((queueWait ((queuePut c.queue a).2.1) c.batch c.every).1)))) (I ((c.now - ((c.now).tmod c.every)) + ((queueWait ((queuePut c.queue a).2.1) c.batch c.every).1))) (by simp only [e2]) stab_end
      refine act_of 11 [(4, Pt b3 0), (65, .agg #[I (((queuePut c.queue a).1).most), Sl a4 ((((queuePut c.queue a).1).wait).length) c4, I c.batch, I c.every, I c.now, Sl a6 c.heads.length c6, Sl a7 c.books.length c.books.length])] (fun X => ?_)
      refine runL_st 2 [[], [Sg b4 0 [I (((queuePut c.queue a).1).most), Sl a4 ((((queuePut c.queue a).1).wait).length) c4]], [Sg b3 0 [I (((queuePut c.queue a).1).most), Sl a4 ((((queuePut c.queue a).1).wait).length) c4, I c.batch, I c.every, I c.now, Sl a6 c.heads.length c6, Sl a7 c.books.length c.books.length]], [Sg b2 0 [Sr a.name, Sr a.value, U a.n, U a.tag]], [Sg b1 0 [I (((queuePut c.queue a).1).most), Sl a4 ((((queuePut c.queue a).1).wait).length) c4, I c.batch, I c.every, I c.now, Sl a6 c.heads.length c6, Sl a7 c.books.length c.books.length]]] ?_
      have e3 : IntKind.i64.wrap (c.now - ((c.now).tmod c.every)) = c.now - ((c.now).tmod c.every) := IntWalk.i64_in _ (by first | omega | (have q_ := ck_bd (by assumption); have q10_ := tmod_bd (n := c.now) (e := c.every) (by omega) (by omega); have q11_ := qw_bd (queuePut c.queue a).2.1 c.batch c.every; omega))
      have e4 : IntKind.i64.wrap ((c.now - ((c.now).tmod c.every)) + ((queueWait ((queuePut c.queue a).2.1) c.batch c.every).1)) = (c.now - ((c.now).tmod c.every)) + ((queueWait ((queuePut c.queue a).2.1) c.batch c.every).1) := IntWalk.i64_in _ (by first | omega | (have q_ := ck_bd (by assumption); have q10_ := tmod_bd (n := c.now) (e := c.every) (by omega) (by omega); have q11_ := qw_bd (queuePut c.queue a).2.1 c.batch c.every; omega))
      refine act_end0 (V' := [(0, .agg #[I (((queuePut c.queue a).1).most), Sl a4 ((((queuePut c.queue a).1).wait).length) c4, I c.batch, I c.every, I c.now, Sl a6 c.heads.length c6, Sl a7 c.books.length c.books.length]), (1, Pt b1 4), (2, I c.now), (3, Pt b1 4), (4, I c.now), (5, Pt b1 3), (6, I c.every), (7, I ((c.now).tmod c.every)), (8, I (c.now - ((c.now).tmod c.every))), (9, I ((queueWait ((queuePut c.queue a).2.1) c.batch c.every).1)), (10, I ((c.now - ((c.now).tmod c.every)) + ((queueWait ((queuePut c.queue a).2.1) c.batch c.every).1))), (12, I ((c.now - ((c.now).tmod c.every)) + ((queueWait ((queuePut c.queue a).2.1) c.batch c.every).1))), (13, I 0)]) ?_
      refine dr_end [0] [(1,0), (2,10), (3,0), (4,10), (5,0), (6,10), (9,0), (12,0), (13,0)] [7, 8, 10] [(4, Pt b3 0), (5, I ((c.now - ((c.now).tmod c.every)) + ((queueWait ((queuePut c.queue a).2.1) c.batch c.every).1))), (6, I 0)] (List.forall_mem_cons.2 ⟨?_, (List.forall_mem_cons.2 ⟨?_, (List.forall_mem_cons.2 ⟨?_, List.forall_mem_nil _⟩)⟩)⟩) ?_
      ·
       refine stab_of 7 72 (I ((c.now).tmod c.every)) [(69, I c.now), (71, I c.every)] (fun X => ?_)
       exact runL_div (k := .i64) (x := c.now) (y := c.every) 72 false ((c.now).tmod c.every) (by first | omega | (have q_ := ck_bd (by assumption); have q10_ := tmod_bd (n := c.now) (e := c.every) (by omega) (by omega); have q11_ := qw_bd (queuePut c.queue a).2.1 c.batch c.every; omega)) rfl stab_end
      ·
       refine stab_of 8 73 (I (c.now - ((c.now).tmod c.every))) [(67, I c.now), (72, I ((c.now).tmod c.every))] (fun X => ?_)
       exact runL_p1 73 (I (IntKind.i64.wrap (c.now - ((c.now).tmod c.every)))) (I (c.now - ((c.now).tmod c.every))) (by simp only [e3]) stab_end
      ·
       refine stab_of 10 75 (I ((c.now - ((c.now).tmod c.every)) + ((queueWait ((queuePut c.queue a).2.1) c.batch c.every).1))) [(73, I (c.now - ((c.now).tmod c.every))), (74, I ((queueWait ((queuePut c.queue a).2.1) c.batch c.every).1))] (fun X => ?_)
       exact runL_p1 75 (I (IntKind.i64.wrap ((c.now - ((c.now).tmod c.every)) + ((queueWait ((queuePut c.queue a).2.1) c.batch c.every).1)))) (I ((c.now - ((c.now).tmod c.every)) + ((queueWait ((queuePut c.queue a).2.1) c.batch c.every).1))) (by simp only [e4]) stab_end
      refine tq_then (tc_ret ?_)
      have hf6 : clerkAsk c a = ((⟨((queuePut c.queue a).1), c.batch, c.every, c.now, c.heads, c.books⟩ : ClerkD), (c.now - ((c.now).tmod c.every)) + ((queueWait ((queuePut c.queue a).2.1) c.batch c.every).1), 0) := by
       unfold clerkAsk clerkZ; first | (rw [if_pos (by assumption)]; done) | (rw [if_neg (by simp_all)]; simp_all; done) | (rw [if_neg (by simp_all)]; simp_all; grind)
      refine tq_ret [2, 0, 0] [.agg #[I (((queuePut c.queue a).1).most), Sl a4 ((((queuePut c.queue a).1).wait).length) c4, I c.batch, I c.every, I c.now, Sl a6 c.heads.length c6, Sl a7 c.books.length c.books.length], I ((c.now - ((c.now).tmod c.every)) + ((queueWait ((queuePut c.queue a).2.1) c.batch c.every).1)), I 0] (bp_rows [] (.cons _ (.cons _ (.cons _ (.cons _ (.cons _ .slnil))))) (Mem.le_trans (Mem.le_trans hl1 hl2) hl3) ?_)
      rw [hf6]
      try dsimp only
      exact ⟨a4, c4, a6, c6, a7, c.books.length, rfl, w9, (hs4.mono (Mem.le_trans hl2 hl3)), w11, w12, w13, hs7, hs8, (by first | (first | assumption | omega | (have q_ := ck_bd (by assumption); have q10_ := tmod_bd (n := c.now) (e := c.every) (by omega) (by omega); have q11_ := qw_bd (queuePut c.queue a).2.1 c.batch c.every; omega) | (simp; done) | (simp; omega)) | (dsimp only; first | assumption | omega | (have q_ := ck_bd (by assumption); have q10_ := tmod_bd (n := c.now) (e := c.every) (by omega) (by omega); have q11_ := qw_bd (queuePut c.queue a).2.1 c.batch c.every; omega) | (simp; done) | (simp; omega))), rfl⟩
theorem clerkTick_con (G : Mem) (vs_c : List Value) (c : ClerkD) (h_c : EClerk.R G vs_c c)  : Con Tryz.prog 22 #[.agg vs_c.toArray] G [] (fun u G' L' => ∃ (a1 : Option Addr) (c2 : Nat) (a3 : Option Addr) (c4 : Nat) (a5 : Option Addr) (c6 : Nat), u = .tuple #[.agg #[I (((clerkTick c).1).queue.most), Sl a1 ((((clerkTick c).1).queue.wait).length) c2, I (((clerkTick c).1).batch), I (((clerkTick c).1).every), I (((clerkTick c).1).now), Sl a3 ((((clerkTick c).1).heads).length) c4, Sl a5 ((((clerkTick c).1).books).length) c6], Bo ((clerkTick c).2.1), I ((clerkTick c).2.2)] ∧ (-9223372036854775808 ≤ (((clerkTick c).1).queue.most) ∧ (((clerkTick c).1).queue.most) < 9223372036854775808) ∧ (RS EAsk G' a1 c2 (((clerkTick c).1).queue.wait)) ∧ (-9223372036854775808 ≤ (((clerkTick c).1).batch) ∧ (((clerkTick c).1).batch) < 9223372036854775808) ∧ (-9223372036854775808 ≤ (((clerkTick c).1).every) ∧ (((clerkTick c).1).every) < 9223372036854775808) ∧ (-9223372036854775808 ≤ (((clerkTick c).1).now) ∧ (((clerkTick c).1).now) < 9223372036854775808) ∧ (RS EHead G' a3 c4 (((clerkTick c).1).heads)) ∧ (RS ESlEnt G' a5 c6 (((clerkTick c).1).books)) ∧ L' = []) := by
 obtain ⟨a1, c1, a2, c2, a3, c3, rfl, w1, hs1, w2, w3, w4, hs2, hs3⟩ := h_c
 refine con_of Tryz.func22 88 [(0, .agg #[I c.queue.most, Sl a1 c.queue.wait.length c1, I c.batch, I c.every, I c.now, Sl a2 c.heads.length c2, Sl a3 c.books.length c3])] rfl (fun w0 G0 => ?_)
 refine tc_seq (tc_region ?_)
 refine runL_box 1 #[I c.queue.most, Sl a1 c.queue.wait.length c1, I c.batch, I c.every, I c.now, Sl a2 c.heads.length c2, Sl a3 c.books.length c3] 28 (fun b1 => ?_)
 refine runL_box 2 #[I 0, Sl none 0 0, I 0, I 0, I 0, Sl none 0 0, Sl none 0 0] 28 (fun b2 => ?_)
 refine runL_b [0,0] [(1, Pt b1 0), (2, Pt b2 0)] (runL_nil (tq_then (tc_seq (tc_seq (tc_region ?_)))))
 refine runL_b [4] [(1, Pt b1 0), (2, Pt b2 0), (14, .agg #[I c.queue.most, Sl a1 c.queue.wait.length c1, I c.batch, I c.every, I c.now, Sl a2 c.heads.length c2, Sl a3 c.books.length c3])] ?_
 refine runL_callV 15 (I (clerkCheck c)) (clerkCheck_con G [I c.queue.most, Sl a1 c.queue.wait.length c1, I c.batch, I c.every, I c.now, Sl a2 c.heads.length c2, Sl a3 c.books.length c3] c (⟨a1, c1, a2, c2, a3, c3, rfl, w1, hs1, w2, w3, w4, hs2, hs3⟩)) ?_
 refine runL_b [0] [(1, Pt b1 0), (2, Pt b2 0), (5, I (clerkCheck c))] (runL_nil (tq_then ?_))
 refine tc_rb [0,0] [(1, Pt b1 0), (2, Pt b2 0), (5, I (clerkCheck c)), (17, Bo (!decide (clerkCheck c = 0)))] ?_
 refine tc_cond (!decide (clerkCheck c = 0)) (fun h1 => ?_) (fun h1 => ?_)
 ·
  try simp only [BB] at h1
  refine tc_rb [0,0,3,0,0] [(2, Pt b2 0), (3, Bo false), (4, I (clerkCheck c))] (tc_ret (tq_then_ret ?_))
  have hf1 : clerkTick c = ((⟨(⟨0, []⟩ : QueueD), 0, 0, 0, [], []⟩ : ClerkD), false, clerkCheck c) := by
   unfold clerkTick clerkZ; first | (rw [if_pos (by assumption)]; done) | (rw [if_neg (by simp_all)]; first | (rw [if_pos (by assumption)]; done) | (rw [if_neg (by simp_all)]; first | (rw [if_pos (by assumption)]; done) | (rw [if_neg (by simp_all)]; have e_ : xw = tickBook c := (by rw [hxw.1, List.take_of_length_le (by omega)]; rfl); rw [← e_])))
  refine tq_ret [0, 0, 0] [.agg #[I 0, Sl none 0 0, I 0, I 0, I 0, Sl none 0 0, Sl none 0 0], Bo false, I (clerkCheck c)] (bp_rows [] (.cons _ (.cons _ .slnil)) (Mem.le_refl _) ?_)
  rw [hf1]
  try dsimp only
  exact ⟨none, 0, none, 0, none, 0, rfl, (by first | (first | assumption | omega | (have q_ := ck_bd (by assumption); omega) | (simp; done) | (simp; omega)) | (dsimp only; first | assumption | omega | (have q_ := ck_bd (by assumption); omega) | (simp; done) | (simp; omega))), (RS.nil' EAsk G), (by first | (first | assumption | omega | (have q_ := ck_bd (by assumption); omega) | (simp; done) | (simp; omega)) | (dsimp only; first | assumption | omega | (have q_ := ck_bd (by assumption); omega) | (simp; done) | (simp; omega))), (by first | (first | assumption | omega | (have q_ := ck_bd (by assumption); omega) | (simp; done) | (simp; omega)) | (dsimp only; first | assumption | omega | (have q_ := ck_bd (by assumption); omega) | (simp; done) | (simp; omega))), (by first | (first | assumption | omega | (have q_ := ck_bd (by assumption); omega) | (simp; done) | (simp; omega)) | (dsimp only; first | assumption | omega | (have q_ := ck_bd (by assumption); omega) | (simp; done) | (simp; omega))), (RS.nil' EHead G), (RS.nil' ESlEnt G), rfl⟩
 ·
  try simp only [BB] at h1
  refine tc_skip (tq_then (tc_seq (tc_region ?_)))
  refine runL_b [4] [(1, Pt b1 0), (2, Pt b2 0), (20, .agg #[I c.queue.most, Sl a1 c.queue.wait.length c1, I c.batch, I c.every, I c.now, Sl a2 c.heads.length c2, Sl a3 c.books.length c3])] ?_
  refine runL_callR 21 (copiedC_con G [I c.queue.most, Sl a1 c.queue.wait.length c1, I c.batch, I c.every, I c.now, Sl a2 c.heads.length c2, Sl a3 c.books.length c3] c (⟨a1, c1, a2, c2, a3, c3, rfl, w1, hs1, w2, w3, w4, hs2, hs3⟩) (by first | assumption | omega | (simp; done) | (have q_ := ck_bd (by assumption); (try dsimp only); omega))) (fun v G1 L1 hl1 hp => ?_)
  obtain ⟨a4, c4, a5, c5, a6, rfl, w5, hs4, w6, w7, w8, hs5, hs6, rfl⟩ := hp
  refine runL_bs [5] [(1, Pt b1 0), (2, Pt b2 0)] [[Sg b2 0 [I 0, Sl none 0 0, I 0, I 0, I 0, Sl none 0 0, Sl none 0 0]], [Sg b1 0 [I c.queue.most, Sl a4 c.queue.wait.length c4, I c.batch, I c.every, I c.now, Sl a5 c.heads.length c5, Sl a6 c.books.length c.books.length]]] (runL_nil (tq_then (tc_seq (tc_seq (tc_region ?_)))))
  refine runL_b [4] [(1, Pt b1 0), (2, Pt b2 0), (22, .agg #[I c.queue.most, Sl a4 c.queue.wait.length c4, I c.batch, I c.every, I c.now, Sl a5 c.heads.length c5, Sl a6 c.books.length c.books.length])] ?_
  refine runL_callV 23 (Bo (closedB c)) (closedB_con G1 [I c.queue.most, Sl a4 c.queue.wait.length c4, I c.batch, I c.every, I c.now, Sl a5 c.heads.length c5, Sl a6 c.books.length c.books.length] c (⟨a4, c4, a5, c5, a6, c.books.length, rfl, w5, hs4, w6, w7, w8, hs5, hs6⟩)) ?_
  refine runL_nil (tq_then ?_)
  refine tc_cond (closedB c) (fun h2 => ?_) (fun h2 => ?_)
  ·
   try simp only [BB] at h2
   refine tc_rbs [4,3,0,0] [(2, Pt b2 0), (3, Bo false), (4, I 0)] [[Sg b2 0 [I c.queue.most, Sl a4 c.queue.wait.length c4, I c.batch, I c.every, I c.now, Sl a5 c.heads.length c5, Sl a6 c.books.length c.books.length]], [Sg b1 0 [I c.queue.most, Sl a4 c.queue.wait.length c4, I c.batch, I c.every, I c.now, Sl a5 c.heads.length c5, Sl a6 c.books.length c.books.length]]] ?_
   refine tc_ret (tq_then_ret ?_)
   have hf2 : clerkTick c = (c, false, 0) := by
    unfold clerkTick clerkZ; first | (rw [if_pos (by assumption)]; done) | (rw [if_neg (by simp_all)]; first | (rw [if_pos (by assumption)]; done) | (rw [if_neg (by simp_all)]; first | (rw [if_pos (by assumption)]; done) | (rw [if_neg (by simp_all)]; have e_ : xw = tickBook c := (by rw [hxw.1, List.take_of_length_le (by omega)]; rfl); rw [← e_])))
   refine tq_ret [0, 0, 0] [.agg #[I c.queue.most, Sl a4 c.queue.wait.length c4, I c.batch, I c.every, I c.now, Sl a5 c.heads.length c5, Sl a6 c.books.length c.books.length], Bo false, I 0] (bp_rows [] (.cons _ (.cons _ .slnil)) hl1 ?_)
   rw [hf2]
   try dsimp only
   exact ⟨a4, c4, a5, c5, a6, c.books.length, rfl, w5, hs4, w6, w7, w8, hs5, hs6, rfl⟩
  ·
   try simp only [BB] at h2
   refine tc_skip (tq_then ?_)
   refine tc_rbs [0,4,0,0,5] [(1, Pt b1 0), (2, Pt b2 0)] [[Sg b2 0 [I 0, Sl none 0 0, I 0, I 0, I 0, Sl none 0 0, Sl none 0 0]], [Sg b1 0 [I c.queue.most, Sl a4 c.queue.wait.length c4, I c.batch, I c.every, I (IntKind.i64.wrap (c.now + 1)), Sl a5 c.heads.length c5, Sl a6 c.books.length c.books.length]]] ?_
   have e1 : IntKind.i64.wrap (c.now + 1) = c.now + 1 := IntWalk.i64_in _ (by first | omega | (have q_ := ck_bd (by assumption); have q10_ := tmod_bd (n := c.now + 1) (e := c.every) (by omega) (by omega); omega))
   refine tc_eq (fr' := [(1, Pt b1 0), (2, Pt b2 0)]) (L' := [[Sg b2 0 [I 0, Sl none 0 0, I 0, I 0, I 0, Sl none 0 0, Sl none 0 0]], [Sg b1 0 [I c.queue.most, Sl a4 c.queue.wait.length c4, I c.batch, I c.every, I (c.now + 1), Sl a5 c.heads.length c5, Sl a6 c.books.length c.books.length]]]) (by rfl) (by simp only [e1]) ?_
   clear e1
   refine tc_seq (tc_seq (tc_region ?_))
   refine runL_b [0,4,0,4] [(1, Pt b1 0), (2, Pt b2 0), (30, I (c.now + 1)), (32, I c.every)] ?_
   refine runL_div (k := .i64) (x := c.now + 1) (y := c.every) 33 false ((c.now + 1).tmod c.every) (by first | omega | (have q_ := ck_bd (by assumption); have q10_ := tmod_bd (n := c.now + 1) (e := c.every) (by omega) (by omega); omega)) rfl ?_
   refine runL_b [0] [(1, Pt b1 0), (2, Pt b2 0), (34, Bo (!decide ((c.now + 1).tmod c.every = 0)))] (runL_nil (tq_then ?_))
   refine tc_cond (!decide ((c.now + 1).tmod c.every = 0)) (fun h3 => ?_) (fun h3 => ?_)
   ·
    try simp only [BB] at h3
    refine tc_rbs [4,3,0,0] [(2, Pt b2 0), (3, Bo false), (4, I 0)] [[Sg b2 0 [I c.queue.most, Sl a4 c.queue.wait.length c4, I c.batch, I c.every, I (c.now + 1), Sl a5 c.heads.length c5, Sl a6 c.books.length c.books.length]], [Sg b1 0 [I c.queue.most, Sl a4 c.queue.wait.length c4, I c.batch, I c.every, I (c.now + 1), Sl a5 c.heads.length c5, Sl a6 c.books.length c.books.length]]] ?_
    refine tc_ret (tq_then_ret ?_)
    have hf3 : clerkTick c = ((⟨c.queue, c.batch, c.every, c.now + 1, c.heads, c.books⟩ : ClerkD), false, 0) := by
     unfold clerkTick clerkZ; first | (rw [if_pos (by assumption)]; done) | (rw [if_neg (by simp_all)]; first | (rw [if_pos (by assumption)]; done) | (rw [if_neg (by simp_all)]; first | (rw [if_pos (by assumption)]; done) | (rw [if_neg (by simp_all)]; have e_ : xw = tickBook c := (by rw [hxw.1, List.take_of_length_le (by omega)]; rfl); rw [← e_])))
    refine tq_ret [0, 0, 0] [.agg #[I c.queue.most, Sl a4 c.queue.wait.length c4, I c.batch, I c.every, I (c.now + 1), Sl a5 c.heads.length c5, Sl a6 c.books.length c.books.length], Bo false, I 0] (bp_rows [] (.cons _ (.cons _ .slnil)) hl1 ?_)
    rw [hf3]
    try dsimp only
    exact ⟨a4, c4, a5, c5, a6, c.books.length, rfl, (by first | (first | assumption | omega | (have q_ := ck_bd (by assumption); omega) | (simp; done) | (simp; omega)) | (dsimp only; first | assumption | omega | (have q_ := ck_bd (by assumption); omega) | (simp; done) | (simp; omega))), hs4, (by first | (first | assumption | omega | (have q_ := ck_bd (by assumption); omega) | (simp; done) | (simp; omega)) | (dsimp only; first | assumption | omega | (have q_ := ck_bd (by assumption); omega) | (simp; done) | (simp; omega))), (by first | (first | assumption | omega | (have q_ := ck_bd (by assumption); omega) | (simp; done) | (simp; omega)) | (dsimp only; first | assumption | omega | (have q_ := ck_bd (by assumption); omega) | (simp; done) | (simp; omega))), (by have q_ := ck_bd (by assumption); (try dsimp only); omega), hs5, hs6, rfl⟩
   ·
    try simp only [BB] at h3
    refine tc_skip (tq_then (tc_seq (tc_region ?_)))
    refine runL_b [0,4,0,4] [(1, Pt b1 0), (2, Pt b2 0), (38, .agg #[I c.queue.most, Sl a4 c.queue.wait.length c4]), (40, I c.batch)] ?_
    refine runL_callR 41 (queueTake_con G1 [I c.queue.most, Sl a4 c.queue.wait.length c4] c.queue (⟨a4, c4, rfl, (by first | (first | assumption | omega | (have q_ := ck_bd (by assumption); omega) | (simp; done) | (simp; omega)) | (dsimp only; first | assumption | omega | (have q_ := ck_bd (by assumption); omega) | (simp; done) | (simp; omega))), hs4⟩) c.batch) (fun v G2 L1 hl2 hp => ?_)
    obtain ⟨a7, c6, a8, c7, rfl, w9, hs7, hs8, rfl⟩ := hp
    refine runL_b [0,0,0,0] [(1, Pt b1 0), (2, Pt b2 0), (42, .agg #[I (((queueTake c.queue c.batch).1).most), Sl a7 ((((queueTake c.queue c.batch).1).wait).length) c6]), (43, Sl a8 (((queueTake c.queue c.batch).2.1).length) c7), (44, I ((queueTake c.queue c.batch).2.2))] ?_
    refine runL_box 6 #[I 0, Sl none 0 0] 24 (fun b3 => ?_)
    refine runL_bs [3,0,0] [(1, Pt b1 0), (2, Pt b2 0), (6, Pt b3 0), (7, Sl a8 (((queueTake c.queue c.batch).2.1).length) c7)] [[Sg b3 0 [I (((queueTake c.queue c.batch).1).most), Sl a7 ((((queueTake c.queue c.batch).1).wait).length) c6]], [Sg b2 0 [I 0, Sl none 0 0, I 0, I 0, I 0, Sl none 0 0, Sl none 0 0]], [Sg b1 0 [I c.queue.most, Sl a4 c.queue.wait.length c4, I c.batch, I c.every, I (c.now + 1), Sl a5 c.heads.length c5, Sl a6 c.books.length c.books.length]]] (runL_nil (tq_then (tc_seq (tc_region ?_))))
    refine runL_b [6] [(1, Pt b1 0), (2, Pt b2 0), (6, Pt b3 0), (7, Sl a8 (((queueTake c.queue c.batch).2.1).length) c7), (45, .agg #[I c.queue.most, Sl a4 c.queue.wait.length c4, I c.batch, I c.every, I (c.now + 1), Sl a5 c.heads.length c5, Sl a6 c.books.length c.books.length])] ?_
    refine runL_callR 46 (lastBk_con G2 [I c.queue.most, Sl a4 c.queue.wait.length c4, I c.batch, I c.every, I (c.now + 1), Sl a5 c.heads.length c5, Sl a6 c.books.length c.books.length] (⟨c.queue, c.batch, c.every, c.now + 1, c.heads, c.books⟩ : ClerkD) (⟨a4, c4, a5, c5, a6, c.books.length, rfl, (by first | (first | assumption | omega | (have q_ := ck_bd (by assumption); omega) | (simp; done) | (simp; omega)) | (dsimp only; first | assumption | omega | (have q_ := ck_bd (by assumption); omega) | (simp; done) | (simp; omega))), (hs4.mono hl2), (by first | (first | assumption | omega | (have q_ := ck_bd (by assumption); omega) | (simp; done) | (simp; omega)) | (dsimp only; first | assumption | omega | (have q_ := ck_bd (by assumption); omega) | (simp; done) | (simp; omega))), (by first | (first | assumption | omega | (have q_ := ck_bd (by assumption); omega) | (simp; done) | (simp; omega)) | (dsimp only; first | assumption | omega | (have q_ := ck_bd (by assumption); omega) | (simp; done) | (simp; omega))), (by have q_ := ck_bd (by assumption); (try dsimp only); omega), (hs5.mono hl2), (hs6.mono hl2)⟩) (by first | assumption | omega | (simp; done) | (have q_ := ck_bd (by assumption); (try dsimp only); omega)) (by first | assumption | omega | (simp; done) | (have q_ := ck_bd (by assumption); (try dsimp only); omega))) (fun v G3 L1 hl3 hp => ?_)
    obtain ⟨a9, c8, rfl, hs9, rfl⟩ := hp
    refine runL_callR 47 (sclone_EEnt G3 a9 c8 (lastB (⟨c.queue, c.batch, c.every, c.now + 1, c.heads, c.books⟩ : ClerkD).books) hs9) (fun v G4 L1 hl4 hp => ?_)
    obtain ⟨a10, c9, r1, rfl, hr1, rfl⟩ := hp
    refine runL_b [0] [(1, Pt b1 0), (2, Pt b2 0), (6, Pt b3 0), (7, Sl a8 (((queueTake c.queue c.batch).2.1).length) c7), (9, Sl a10 ((lastB (⟨c.queue, c.batch, c.every, c.now + 1, c.heads, c.books⟩ : ClerkD).books).length) c9)] (runL_nil (tq_then (tc_seq ?_)))
    refine tc_rb [0,0,0] [(1, Pt b1 0), (2, Pt b2 0), (6, Pt b3 0), (9, Sl a10 ((lastB (⟨c.queue, c.batch, c.every, c.now + 1, c.heads, c.books⟩ : ClerkD).books).length) c9), (48, Sl a8 (((queueTake c.queue c.batch).2.1).length) c7), (49, I (((queueTake c.queue c.batch).2.1).length : Int)), (50, I 0)] (tc_block ?_)
    have hlm_hs8 : ((queueTake c.queue c.batch).2.1).length ≤ 9223372036854775807 := Nat.le_trans (hs8).le (hs8).max
    refine tc_loop (σ := Nat × Option Addr × Nat × List Seg × List EntD × Mem) (fun q_ => (Mem.le G4 q_.2.2.2.2.2) ∧ (q_.1 ≤ ((queueTake c.queue c.batch).2.1).length) ∧ (TRow EEnt q_.2.2.2.2.2 q_.2.1 q_.2.2.1 q_.2.2.2.2.1 q_.2.2.2.1) ∧ (q_.2.2.2.2.1 = setAll (lastB c.books) ((queueTake c.queue c.batch).2.1.take q_.1) ∧ q_.2.2.2.2.1.length ≤ 1000)) (fun q_ => [(1, Pt b1 0), (2, Pt b2 0), (6, Pt b3 0), (9, Sl q_.2.1 q_.2.2.2.2.1.length q_.2.2.1), (48, Sl a8 (((queueTake c.queue c.batch).2.1).length) c7), (49, I (((queueTake c.queue c.batch).2.1).length : Int)), (50, I (q_.1 : Int))]) (fun q_ => q_.2.2.2.2.2) (fun q_ => [q_.2.2.2.1, [Sg b3 0 [I (((queueTake c.queue c.batch).1).most), Sl a7 ((((queueTake c.queue c.batch).1).wait).length) c6]], [Sg b2 0 [I 0, Sl none 0 0, I 0, I 0, I 0, Sl none 0 0, Sl none 0 0]], [Sg b1 0 [I c.queue.most, Sl a4 c.queue.wait.length c4, I c.batch, I c.every, I (c.now + 1), Sl a5 c.heads.length c5, Sl a6 c.books.length c.books.length]]]) (fun q_ => ((queueTake c.queue c.batch).2.1).length - q_.1) (0, a10, c9, r1, lastB (⟨c.queue, c.batch, c.every, c.now + 1, c.heads, c.books⟩ : ClerkD).books, G4) ⟨(Mem.le_refl _), (by (try dsimp only); first | exact Nat.zero_le _ | omega | simp), hr1, ⟨rfl, by have q_ := ck_bd (by assumption); (try dsimp only); omega⟩⟩ (fun q_ hs => ?_)
    obtain ⟨i, aw, cw, rw, xw, g⟩ := q_
    obtain ⟨hle, hi, hrw, hxw⟩ := hs
    dsimp only at hle hi hrw hxw
    refine tc_eq (fr' := [(1, Pt b1 0), (2, Pt b2 0), (6, Pt b3 0), (9, Sl aw xw.length cw), (48, Sl a8 (((queueTake c.queue c.batch).2.1).length) c7), (49, I (((queueTake c.queue c.batch).2.1).length : Int)), (50, I (i : Int))]) (L' := [rw, [Sg b3 0 [I (((queueTake c.queue c.batch).1).most), Sl a7 ((((queueTake c.queue c.batch).1).wait).length) c6]], [Sg b2 0 [I 0, Sl none 0 0, I 0, I 0, I 0, Sl none 0 0, Sl none 0 0]], [Sg b1 0 [I c.queue.most, Sl a4 c.queue.wait.length c4, I c.batch, I c.every, I (c.now + 1), Sl a5 c.heads.length c5, Sl a6 c.books.length c.books.length]]]) rfl rfl ?_
    refine tc_rb [0] [(1, Pt b1 0), (2, Pt b2 0), (6, Pt b3 0), (9, Sl aw xw.length cw), (48, Sl a8 (((queueTake c.queue c.batch).2.1).length) c7), (49, I (((queueTake c.queue c.batch).2.1).length : Int)), (50, I (i : Int)), (51, Bo (decide ((i : Int) < (((queueTake c.queue c.batch).2.1).length : Int))))] (tc_seq ?_)
    refine tc_cond (decide ((i : Int) < (((queueTake c.queue c.batch).2.1).length : Int))) (fun h4 => ?_) (fun h4 => ?_)
    ·
     try simp only [BB] at h4
     refine tc_skip (tq_then (tc_seq (tc_block (tc_seq (tc_region ?_)))))
     obtain ⟨b4, o1, rfl⟩ := RS.addr (hs8.mono (Mem.le_trans (Mem.le_trans hl3 hl4) hle)) (k := i) (by first | omega | (have q_ := ck_bd (by assumption); have q10_ := tmod_bd (n := c.now + 1) (e := c.every) (by omega) (by omega); omega))
     obtain ⟨x1, hx1⟩ := getX (l := (queueTake c.queue c.batch).2.1) (k := i) (by first | omega | (have q_ := ck_bd (by assumption); have q10_ := tmod_bd (n := c.now + 1) (e := c.every) (by omega) (by omega); omega))
     obtain ⟨_, ⟨rfl, w10, w11, w12, w13⟩, hc1⟩ := RS.get (hs8.mono (Mem.le_trans (Mem.le_trans hl3 hl4) hle)) hx1
     refine runL_idx (b := b4) (off := o1) (len := ((queueTake c.queue c.batch).2.1).length) (cap := c7) (ik := .i64) 52 54 4 i (by first | omega | (have q_ := ck_bd (by assumption); have q10_ := tmod_bd (n := c.now + 1) (e := c.every) (by omega) (by omega); omega)) ?_
     refine runL_ldG 53 54 (cs := [Sr x1.name, Sr x1.value, U x1.n, U x1.tag]) 0 (.agg #[Sr x1.name, Sr x1.value, U x1.n, U x1.tag]) hc1 ?_
     refine runL_box 11 #[Sr ([]), Sr ([]), U 0, U 0] 54 (fun b5 => ?_)
     refine runL_bs [3] [(1, Pt b1 0), (2, Pt b2 0), (6, Pt b3 0), (9, Sl aw xw.length cw), (11, Pt b5 0), (48, Sl (At b4 o1) (((queueTake c.queue c.batch).2.1).length) c7), (49, I (((queueTake c.queue c.batch).2.1).length : Int)), (50, I (i : Int))] [[Sg b5 0 [Sr x1.name, Sr x1.value, U x1.n, U x1.tag]], rw, [Sg b3 0 [I (((queueTake c.queue c.batch).1).most), Sl a7 ((((queueTake c.queue c.batch).1).wait).length) c6]], [Sg b2 0 [I 0, Sl none 0 0, I 0, I 0, I 0, Sl none 0 0, Sl none 0 0]], [Sg b1 0 [I c.queue.most, Sl a4 c.queue.wait.length c4, I c.batch, I c.every, I (c.now + 1), Sl a5 c.heads.length c5, Sl a6 c.books.length c.books.length]]] (runL_nil (tq_then (tc_region ?_)))
     refine runL_b [0,0,2,0,2] [(1, Pt b1 0), (2, Pt b2 0), (6, Pt b3 0), (9, Sl aw xw.length cw), (48, Sl (At b4 o1) (((queueTake c.queue c.batch).2.1).length) c7), (49, I (((queueTake c.queue c.batch).2.1).length : Int)), (50, I (i : Int)), (55, Sl aw xw.length cw), (57, Sr x1.name), (59, Sr x1.value)] ?_
     refine runL_frzR (E := EEnt) 1 hrw (by first | (have q0_ := hxw.2; simp only [EEnt]; omega) | (have q_ := ck_bd (by assumption); simp only [ESlEnt, List.length_append, List.length_cons, List.length_nil]; omega) | (have q_ := ck_bd (by assumption); (try simp only [List.length_append, List.length_cons, List.length_nil]); omega)) (fun G5 hl5 hs10 => ?_)
     refine runL_callR 60 (treeSet_con G5 aw cw xw hs10 x1.name w10 x1.value w11) (fun v G6 L1 hl6 hp => ?_)
     obtain ⟨a11, c10, r2, rfl, hr2, rfl⟩ := hp
     refine runL_b [0,0,0,0] [(1, Pt b1 0), (2, Pt b2 0), (6, Pt b3 0), (9, Sl a11 (((treeSet xw x1.name x1.value).1).length) c10), (48, Sl (At b4 o1) (((queueTake c.queue c.batch).2.1).length) c7), (49, I (((queueTake c.queue c.batch).2.1).length : Int)), (50, I (i : Int))] (runL_nil (tq_block (tq_then (tc_region ?_))))
     refine runL_b [0,0] [(1, Pt b1 0), (2, Pt b2 0), (6, Pt b3 0), (9, Sl a11 (((treeSet xw x1.name x1.value).1).length) c10), (48, Sl (At b4 o1) (((queueTake c.queue c.batch).2.1).length) c7), (49, I (((queueTake c.queue c.batch).2.1).length : Int)), (50, I (IntKind.i64.wrap ((i : Int) + 1)))] ?_
     have e2 : IntKind.i64.wrap ((i : Int) + 1) = (i : Int) + 1 := IntWalk.i64_in _ (by first | omega | (have q_ := ck_bd (by assumption); have q10_ := tmod_bd (n := c.now + 1) (e := c.every) (by omega) (by omega); omega))
     refine runL_eq (fr' := [(1, Pt b1 0), (2, Pt b2 0), (6, Pt b3 0), (9, Sl a11 (((treeSet xw x1.name x1.value).1).length) c10), (48, Sl (At b4 o1) (((queueTake c.queue c.batch).2.1).length) c7), (49, I (((queueTake c.queue c.batch).2.1).length : Int)), (50, I ((i : Int) + 1))]) (L' := [r2, [Sg b5 0 [Sr x1.name, Sr x1.value, U x1.n, U x1.tag]], [], [Sg b3 0 [I (((queueTake c.queue c.batch).1).most), Sl a7 ((((queueTake c.queue c.batch).1).wait).length) c6]], [Sg b2 0 [I 0, Sl none 0 0, I 0, I 0, I 0, Sl none 0 0, Sl none 0 0]], [Sg b1 0 [I c.queue.most, Sl a4 c.queue.wait.length c4, I c.batch, I c.every, I (c.now + 1), Sl a5 c.heads.length c5, Sl a6 c.books.length c.books.length]]]) (by simp only [e2]) (by rfl) ?_
     clear e2
     refine runL_nil ?_
     refine tq_front 0 ?_
     refine tq_front 1 ?_
     refine tq_front 2 ?_
     refine tq_owns [r2, [Sg b3 0 [I (((queueTake c.queue c.batch).1).most), Sl a7 ((((queueTake c.queue c.batch).1).wait).length) c6]], [Sg b2 0 [I 0, Sl none 0 0, I 0, I 0, I 0, Sl none 0 0, Sl none 0 0]], [Sg b1 0 [I c.queue.most, Sl a4 c.queue.wait.length c4, I c.batch, I c.every, I (c.now + 1), Sl a5 c.heads.length c5, Sl a6 c.books.length c.books.length]]] (.cons _ (.cons _ (.cons_cons _ (.cons_cons _ (.cons_cons _ (.cons_cons _ .slnil)))))) ?_
     exact tq_rnd (i + 1, a11, c10, r2, (treeSet xw x1.name x1.value).1, G6) ⟨(Mem.le_trans hle (Mem.le_trans hl5 hl6)), (by omega), hr2, ⟨by rw [hxw.1]; exact setAll_next hx1, Nat.le_trans (treeSet_len _ _ _) (by decide)⟩⟩ (by (try dsimp only); omega)
    ·
     try simp only [BB] at h4
     refine tc_exit (tq_then_exit (tq_rnd_exit (tq_block_here (tq_then (tc_seq (tc_region ?_))))))
     refine runL_b [0] [(1, Pt b1 0), (2, Pt b2 0), (6, Pt b3 0), (9, Sl aw xw.length cw), (65, Sl aw xw.length cw)] ?_
     refine runL_frzR (E := EEnt) 0 hrw (by first | (have q0_ := hxw.2; simp only [EEnt]; omega) | (have q_ := ck_bd (by assumption); simp only [ESlEnt, List.length_append, List.length_cons, List.length_nil]; omega) | (have q_ := ck_bd (by assumption); (try simp only [List.length_append, List.length_cons, List.length_nil]); omega)) (fun G7 hl7 hs11 => ?_)
     refine runL_callV 66 (.tuple #[U ((treeAtE xw []).1), I ((treeAtE xw []).2)]) (treeRoot_con G7 aw cw xw hs11) ?_
     refine runL_b [0,0,0,0,0] [(1, Pt b1 0), (2, Pt b2 0), (6, Pt b3 0), (9, Sl aw xw.length cw), (12, U ((treeAtE xw []).1))] (runL_nil (tq_then (tc_seq ?_)))
     refine tc_draw [4, 5, 7, 9] ?_
     refine dr_V [(0, .agg #[I (((queueTake c.queue c.batch).1).most), Sl a7 ((((queueTake c.queue c.batch).1).wait).length) c6]), (1, Pt b1 6), (2, Sl a6 c.books.length c.books.length), (3, Sl aw xw.length cw), (6, Pt b1 0)] ?_
     refine dr_mid [] [(0,4), (1,0), (2,8), (3,0), (6,0)] [] [4] (List.forall_mem_nil _) (List.forall_mem_cons.2 ⟨?_, List.forall_mem_nil _⟩)
     refine act_of 4 [(72, Sl aw xw.length cw)] (fun X => ?_)
     refine runL_bsl 73 1 #[Sl aw xw.length cw] 33 (fun b6 => ?_)
     refine act_end (V' := [(0, .agg #[I (((queueTake c.queue c.batch).1).most), Sl a7 ((((queueTake c.queue c.batch).1).wait).length) c6]), (1, Pt b1 6), (2, Sl a6 c.books.length c.books.length), (3, Sl aw xw.length cw), (4, Sl (At b6 0) 1 1), (6, Pt b1 0)]) ?_
     refine dr_mid [3] [(0,6), (1,0), (2,10), (6,0)] [] [5] (List.forall_mem_nil _) (List.forall_mem_cons.2 ⟨?_, List.forall_mem_nil _⟩)
     refine act_of 5 [(71, Sl a6 c.books.length c.books.length), (73, Sl (At b6 0) 1 1)] (fun X => ?_)
     refine runL_appF1 (E := ESlEnt) (b := b6) (cs := [Sl aw xw.length cw]) 74 33 0 xw (hs6.mono (Mem.le_trans (Mem.le_trans (Mem.le_trans (Mem.le_trans hl2 hl3) hl4) hle) hl7)) (⟨aw, cw, rfl, hs11⟩) (by first | (have q0_ := hxw.2; simp only [EEnt]; omega) | (have q_ := ck_bd (by assumption); simp only [ESlEnt, List.length_append, List.length_cons, List.length_nil]; omega) | (have q_ := ck_bd (by assumption); (try simp only [List.length_append, List.length_cons, List.length_nil]); omega)) (by first | (have q0_ := hxw.2; simp only [EEnt]; omega) | (have q_ := ck_bd (by assumption); simp only [ESlEnt, List.length_append, List.length_cons, List.length_nil]; omega) | (have q_ := ck_bd (by assumption); (try simp only [List.length_append, List.length_cons, List.length_nil]); omega)) (fun a12 c11 r3 hr3 => ?_)
     refine act_end (V' := [(0, .agg #[I (((queueTake c.queue c.batch).1).most), Sl a7 ((((queueTake c.queue c.batch).1).wait).length) c6]), (1, Pt b1 6), (2, Sl a6 c.books.length c.books.length), (3, Sl aw xw.length cw), (4, Sl (At b6 0) 1 1), (5, Sl a12 ((c.books ++ [xw]).length) c11), (6, Pt b1 0)]) ?_
     refine dr_mid [1, 2, 3] [(0,8), (6,0)] [] [7] (List.forall_mem_nil _) (List.forall_mem_cons.2 ⟨?_, List.forall_mem_nil _⟩)
     refine act_of 7 [(69, .agg #[I (((queueTake c.queue c.batch).1).most), Sl a7 ((((queueTake c.queue c.batch).1).wait).length) c6]), (75, Pt b1 0)] (fun X => ?_)
     refine runL_st 5 [r3, [Sg b6 0 [Sl aw xw.length cw]], [], [Sg b3 0 [I (((queueTake c.queue c.batch).1).most), Sl a7 ((((queueTake c.queue c.batch).1).wait).length) c6]], [Sg b2 0 [I 0, Sl none 0 0, I 0, I 0, I 0, Sl none 0 0, Sl none 0 0]], [Sg b1 0 [I (((queueTake c.queue c.batch).1).most), Sl a7 ((((queueTake c.queue c.batch).1).wait).length) c6, I c.batch, I c.every, I (c.now + 1), Sl a5 c.heads.length c5, Sl a6 c.books.length c.books.length]]] ?_
     refine act_end0 (V' := [(0, .agg #[I (((queueTake c.queue c.batch).1).most), Sl a7 ((((queueTake c.queue c.batch).1).wait).length) c6]), (1, Pt b1 6), (2, Sl a6 c.books.length c.books.length), (3, Sl aw xw.length cw), (4, Sl (At b6 0) 1 1), (5, Sl a12 ((c.books ++ [xw]).length) c11), (6, Pt b1 0), (8, Pt b1 6)]) ?_
     refine dr_mid [0, 1, 2, 3, 6] [(8,0)] [] [9] (List.forall_mem_nil _) (List.forall_mem_cons.2 ⟨?_, List.forall_mem_nil _⟩)
     refine act_of 9 [(74, Sl a12 ((c.books ++ [xw]).length) c11), (76, Pt b1 6)] (fun X => ?_)
     refine runL_st 5 [r3, [Sg b6 0 [Sl aw xw.length cw]], [], [Sg b3 0 [I (((queueTake c.queue c.batch).1).most), Sl a7 ((((queueTake c.queue c.batch).1).wait).length) c6]], [Sg b2 0 [I 0, Sl none 0 0, I 0, I 0, I 0, Sl none 0 0, Sl none 0 0]], [Sg b1 0 [I (((queueTake c.queue c.batch).1).most), Sl a7 ((((queueTake c.queue c.batch).1).wait).length) c6, I c.batch, I c.every, I (c.now + 1), Sl a5 c.heads.length c5, Sl a12 ((c.books ++ [xw]).length) c11]]] ?_
     refine act_end0 (V' := [(0, .agg #[I (((queueTake c.queue c.batch).1).most), Sl a7 ((((queueTake c.queue c.batch).1).wait).length) c6]), (1, Pt b1 6), (2, Sl a6 c.books.length c.books.length), (3, Sl aw xw.length cw), (4, Sl (At b6 0) 1 1), (5, Sl a12 ((c.books ++ [xw]).length) c11), (6, Pt b1 0), (8, Pt b1 6)]) ?_
     refine dr_end [0, 1, 2, 3, 6, 8] [] [] [(1, Pt b1 0), (2, Pt b2 0), (12, U ((treeAtE xw []).1))] (List.forall_mem_nil _) ?_
     refine tq_then (tc_seq (tc_region ?_))
     refine runL_b [0,12,0,0,12] [(1, Pt b1 0), (2, Pt b2 0), (79, Sl a5 c.heads.length c5), (80, U ((treeAtE xw []).1)), (82, I (c.now + 1))] ?_
     refine runL_callR 83 (chainGrow_con G7 a5 c5 c.heads (hs5.mono (Mem.le_trans (Mem.le_trans (Mem.le_trans (Mem.le_trans hl2 hl3) hl4) hle) hl7)) ((treeAtE xw []).1) (treeAtE_bd _ _) (c.now + 1) (by have q_ := ck_bd (by assumption); (try dsimp only); omega)) (fun v G8 L1 hl8 hp => ?_)
     obtain ⟨a13, c12, r4, rfl, hr4, rfl⟩ := hp
     refine runL_bs [0,0,0,0,15] [(1, Pt b1 0), (2, Pt b2 0)] [r4, r3, [Sg b6 0 [Sl aw xw.length cw]], [], [Sg b3 0 [I (((queueTake c.queue c.batch).1).most), Sl a7 ((((queueTake c.queue c.batch).1).wait).length) c6]], [Sg b2 0 [I 0, Sl none 0 0, I 0, I 0, I 0, Sl none 0 0, Sl none 0 0]], [Sg b1 0 [I (((queueTake c.queue c.batch).1).most), Sl a7 ((((queueTake c.queue c.batch).1).wait).length) c6, I c.batch, I c.every, I (c.now + 1), Sl a13 (((chainGrow c.heads ((treeAtE xw []).1) (c.now + 1)).1).length) c12, Sl a12 ((c.books ++ [xw]).length) c11]]] (runL_nil (tq_then ?_))
     refine tc_rbs [14,13,0,0] [(2, Pt b2 0), (3, Bo true), (4, I 0)] [r4, r3, [Sg b6 0 [Sl aw xw.length cw]], [], [Sg b3 0 [I (((queueTake c.queue c.batch).1).most), Sl a7 ((((queueTake c.queue c.batch).1).wait).length) c6]], [Sg b2 0 [I (((queueTake c.queue c.batch).1).most), Sl a7 ((((queueTake c.queue c.batch).1).wait).length) c6, I c.batch, I c.every, I (c.now + 1), Sl a13 (((chainGrow c.heads ((treeAtE xw []).1) (c.now + 1)).1).length) c12, Sl a12 ((c.books ++ [xw]).length) c11]], [Sg b1 0 [I (((queueTake c.queue c.batch).1).most), Sl a7 ((((queueTake c.queue c.batch).1).wait).length) c6, I c.batch, I c.every, I (c.now + 1), Sl a13 (((chainGrow c.heads ((treeAtE xw []).1) (c.now + 1)).1).length) c12, Sl a12 ((c.books ++ [xw]).length) c11]]] ?_
     refine tc_ret ?_
     refine tq_frzR (E := EHead) 0 hr4 (by first | (have q_ := chainGrow_ok (l := c.heads) (r := ((treeAtE xw []).1)) (t := (c.now + 1)) (by assumption); have q1_ := q_.2.1; rw [q_.2.2.2]; simp only [EHead, List.length_append, List.length_cons, List.length_nil]; omega) | (have q_ := chainGrow_len c.heads ((treeAtE xw []).1) (c.now + 1); simp only [EHead]; omega)) (fun G9 hl9 hs12 => ?_)
     refine tq_frzR (E := ESlEnt) 1 (hr3.mono (Mem.le_trans hl8 hl9)) (by first | (have q0_ := hxw.2; simp only [EEnt]; omega) | (have q_ := ck_bd (by assumption); simp only [ESlEnt, List.length_append, List.length_cons, List.length_nil]; omega) | (have q_ := ck_bd (by assumption); (try simp only [List.length_append, List.length_cons, List.length_nil]); omega)) (fun G10 hl10 hs13 => ?_)
     have hf4 : clerkTick c = ((⟨((queueTake c.queue c.batch).1), c.batch, c.every, c.now + 1, (chainGrow c.heads ((treeAtE xw []).1) (c.now + 1)).1, (c.books ++ [xw])⟩ : ClerkD), true, 0) := by
      unfold clerkTick clerkZ; first | (rw [if_pos (by assumption)]; done) | (rw [if_neg (by simp_all)]; first | (rw [if_pos (by assumption)]; done) | (rw [if_neg (by simp_all)]; first | (rw [if_pos (by assumption)]; done) | (rw [if_neg (by simp_all)]; have e_ : xw = tickBook c := (by rw [hxw.1, List.take_of_length_le (by omega)]; rfl); rw [← e_])))
     refine tq_ret [5, 0, 0] [.agg #[I (((queueTake c.queue c.batch).1).most), Sl a7 ((((queueTake c.queue c.batch).1).wait).length) c6, I c.batch, I c.every, I (c.now + 1), Sl a13 (((chainGrow c.heads ((treeAtE xw []).1) (c.now + 1)).1).length) c12, Sl a12 ((c.books ++ [xw]).length) c11], Bo true, I 0] (bp_rows [] (.cons _ (.cons _ (.cons _ (.cons _ (.cons _ (.cons _ (.cons _ .slnil))))))) (Mem.le_trans (Mem.le_trans (Mem.le_trans (Mem.le_trans (Mem.le_trans (Mem.le_trans (Mem.le_trans (Mem.le_trans hl1 hl2) hl3) hl4) hle) hl7) hl8) hl9) hl10) ?_)
     rw [hf4]
     try dsimp only
     exact ⟨a7, c6, a13, c12, a12, c11, rfl, w9, (hs7.mono (Mem.le_trans (Mem.le_trans (Mem.le_trans (Mem.le_trans (Mem.le_trans (Mem.le_trans hl3 hl4) hle) hl7) hl8) hl9) hl10)), (by first | (first | assumption | omega | (have q_ := ck_bd (by assumption); omega) | (simp; done) | (simp; omega)) | (dsimp only; first | assumption | omega | (have q_ := ck_bd (by assumption); omega) | (simp; done) | (simp; omega))), (by first | (first | assumption | omega | (have q_ := ck_bd (by assumption); omega) | (simp; done) | (simp; omega)) | (dsimp only; first | assumption | omega | (have q_ := ck_bd (by assumption); omega) | (simp; done) | (simp; omega))), (by have q_ := ck_bd (by assumption); (try dsimp only); omega), (hs12.mono hl10), hs13, rfl⟩
end Go.Proofs.YtmpakffajpnffaaGreatDoor
