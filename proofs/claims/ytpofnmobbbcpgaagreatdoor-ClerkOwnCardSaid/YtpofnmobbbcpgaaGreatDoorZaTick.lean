import Derived.Test.YtpofnmobbbcpgaaGreatDoorZaClerk
namespace Go.Proofs.YtpofnmobbbcpgaaGreatDoor
open Go.Tx
set_option linter.unusedVariables false
set_option linter.unusedSimpArgs false
open Go.Tx Go.Proofs
theorem set_take {α : Type} {x b : List α} {i : Nat} {v : α} (h : x.take i = b.take i) (hi : i < x.length) (hv : b[i]? = some v) : (x.set i v).take (i + 1) = b.take (i + 1) := by
  rw [List.take_add_one, List.take_set_of_le (Nat.le_refl _), h, List.take_add_one, hv, List.getElem?_set_self hi]
theorem take_eq_of {α : Type} {x b : List α} {i : Nat} (hl : x.length = b.length) (h : x.take i = b.take i) (hi : b.length ≤ i) : x = b := by
  rw [List.take_of_length_le (by omega), List.take_of_length_le hi] at h; exact h
def closedB (c : ClerkD) : Bool := decide ((c.heads.length : Int) = 40) || decide (c.now = 1000000000)
def clerkAsk (c : ClerkD) (a : AskD) : ClerkD × Int × Int := if ¬ clerkCheck c = 0 then (clerkZ, 0, clerkCheck c) else if ¬ (queuePut c.queue a).2.2 = 0 ∧ ¬ (queuePut c.queue a).2.2 = 7 then (clerkZ, 0, (queuePut c.queue a).2.2) else if closedB c = true then (clerkZ, 0, 9) else if (queuePut c.queue a).2.2 = 7 ∨ clerkNames c [a.name] > 24 then (clerkZ, 0, 7) else (⟨(queuePut c.queue a).1, c.batch, c.every, c.now, c.heads, c.books⟩, c.now - c.now.tmod c.every + (queueWait (queuePut c.queue a).2.1 c.batch c.every).1, 0)
def setAll (b : List EntD) (l : List AskD) : List EntD := l.foldl (fun b a => (treeSet b a.name a.value).1) b
theorem setAll_next {b : List EntD} {l : List AskD} {i : Nat} {a : AskD} (h : l[i]? = some a) : (treeSet (setAll b (l.take i)) a.name a.value).1 = setAll b (l.take (i + 1)) := by
  unfold setAll; rw [List.take_add_one, h]; simp [List.foldl_append]
def tickBook (c : ClerkD) : List EntD := setAll (lastB c.books) (queueTake c.queue c.batch).2.1
def clerkTick (c : ClerkD) : ClerkD × Bool × Int := if ¬ clerkCheck c = 0 then (clerkZ, false, clerkCheck c) else if closedB c = true then (c, false, 0) else if ¬ (c.now + 1).tmod c.every = 0 then (⟨c.queue, c.batch, c.every, c.now + 1, c.heads, c.books⟩, false, 0) else (⟨(queueTake c.queue c.batch).1, c.batch, c.every, c.now + 1, (chainGrow c.heads (treeAtE (tickBook c) []).1 (c.now + 1)).1, c.books ++ [tickBook c]⟩, true, 0)
theorem names_nodup {b : List EntD} (h : TreeOk b) : (entNames b).Nodup := by
  unfold entNames
  refine List.pairwise_map.2 (h.pair.imp fun {x y} hxy e => ?_)
  rw [ordN_zero.2 e] at hxy; omega
theorem mem_entNames {b : List EntD} {s : List UInt8} : s ∈ entNames b ↔ ∃ x ∈ b, x.name = s := by unfold entNames; simp
theorem mem_askNames {b : List AskD} {s : List UInt8} : s ∈ askNames b ↔ ∃ x ∈ b, x.name = s := by unfold askNames; simp
theorem treeSet_can {b : List EntD} {name value : List UInt8} (h : TreeOk b) (hr : treeRight name value = 0) (hf : name ∈ entNames b ∨ b.length < 24) : (treeSet b name value).2 = 0 := by
  have hp := (right_bd hr).2.2
  have e1 : treeFind b name = ((bsF b name entOrd).1, (bsF b name entOrd).2, 0) := by
    unfold treeFind; rw [if_neg (by rw [treeCheck_iff.2 h]; simp), if_neg (by rw [hp]; simp)]
  have e2 : treeSetE b name value = 0 := by
    unfold treeSetE
    rw [e1, if_neg (by simp), if_neg (by rw [hr]; simp), if_neg]
    rintro ⟨q1, q2⟩
    rcases hf with hf | hf
    · have := (bsF_is h name).2 (mem_entNames.1 hf)
      rw [this] at q1; cases q1
    · omega
  unfold treeSet
  rw [if_neg (by omega)]
theorem set_names {b : List EntD} {name value : List UInt8} (h : (treeSet b name value).2 = 0) {s : List UInt8} : s ∈ entNames (treeSet b name value).1 ↔ s = name ∨ s ∈ entNames b := by
  obtain ⟨_, _, _, q⟩ := treeSet_ok h
  rw [mem_entNames, mem_entNames]
  constructor
  · rintro ⟨x, hx, rfl⟩
    rcases (q x).1 hx with e | ⟨e, _⟩
    · exact .inl (by rw [e])
    · exact .inr ⟨x, e, rfl⟩
  · rintro (rfl | ⟨x, hx, rfl⟩)
    · exact ⟨_, (q _).2 (.inl rfl), rfl⟩
    · by_cases e : x.name = name
      · exact ⟨_, (q _).2 (.inl rfl), e.symm⟩
      · exact ⟨x, (q x).2 (.inr ⟨hx, e⟩), rfl⟩
theorem askR_tree {a : AskD} (h : queueRight a = 0) : treeRight a.name a.value = 0 := h
theorem setAll_ok : ∀ (l : List AskD) (b : List EntD), TreeOk b → (∀ a ∈ l, queueRight a = 0) → nn (entNames b ++ askNames l) ≤ 24 →
    TreeOk (setAll b l) ∧ (∀ s, s ∈ entNames (setAll b l) ↔ s ∈ entNames b ∨ s ∈ askNames l)
  | [], b, h, _, _ => ⟨h, fun s => by simp [setAll, askNames]⟩
  | a :: l, b, h, hr, hn => by
    have ha := askR_tree (hr a (by simp))
    have hf : a.name ∈ entNames b ∨ b.length < 24 := by
      by_cases e : a.name ∈ entNames b
      · exact .inl e
      · right
        have h1 : (a.name :: entNames b).Nodup := List.nodup_cons.2 ⟨e, names_nodup h⟩
        have h2 := nn_nodup h1
        have h3 : nn (a.name :: entNames b) ≤ nn (entNames b ++ askNames (a :: l)) := nn_mono fun x hx => by
          rcases List.mem_cons.1 hx with rfl | hx
          · exact List.mem_append.2 (.inr (mem_askNames.2 ⟨a, by simp, rfl⟩))
          · exact List.mem_append.2 (.inl hx)
        simp only [List.length_cons] at h2
        have : (entNames b).length = b.length := by simp [entNames]
        omega
    have hs := treeSet_can h ha hf
    have hok := (treeSet_ok hs).2.2.1
    have hmem : ∀ s, s ∈ entNames (treeSet b a.name a.value).1 ++ askNames l → s ∈ entNames b ++ askNames (a :: l) := fun s hs' => by
      rcases List.mem_append.1 hs' with q | q
      · rcases (set_names hs).1 q with rfl | q
        · exact List.mem_append.2 (.inr (mem_askNames.2 ⟨a, by simp, rfl⟩))
        · exact List.mem_append.2 (.inl q)
      · exact List.mem_append.2 (.inr (by simp only [askNames, List.map_cons, List.mem_cons]; exact .inr q))
    obtain ⟨q1, q2⟩ := setAll_ok l _ hok (fun x hx => hr x (by simp [hx])) (Nat.le_trans (nn_mono hmem) hn)
    refine ⟨q1, fun s => ?_⟩
    show s ∈ entNames (setAll (treeSet b a.name a.value).1 l) ↔ _
    rw [q2 s, set_names hs]
    simp only [askNames, List.map_cons, List.mem_cons]
    constructor
    · rintro ((h | h) | h)
      · exact .inr (.inl h)
      · exact .inl h
      · exact .inr (.inr h)
    · rintro (h | h | h)
      · exact .inl (.inr h)
      · exact .inl (.inl h)
      · exact .inr h
theorem ClerkOk.last {c : ClerkD} (h : ClerkOk c) : c.books[c.books.length - 1]? = some (lastB c.books) := by
  have := h.len; have := h.chain.len1
  have hl : c.books.length - 1 < c.books.length := by omega
  unfold lastB; rw [List.getElem?_eq_getElem hl]; rfl
theorem ClerkOk.book {c : ClerkD} (h : ClerkOk c) {k : Nat} {x : List EntD} (hx : c.books[k]? = some x) : TreeOk x := (treeAtE_ok (h.root k x hx).1).1
theorem ClerkOk.bds {c : ClerkD} (h : ClerkOk c) : 0 < c.books.length ∧ c.books.length ≤ 1000 ∧ (lastB c.books).length ≤ 1000 ∧ c.queue.wait.length ≤ 1000 ∧ 1 ≤ c.heads.length ∧ c.heads.length ≤ 40 := by
  have h1 := queueCheck_iff.1 h.queue
  have := h.len; have := h.chain.len1; have := h.chain.len
  have := (h.book h.last).len
  omega
theorem ck_bd {c : ClerkD} (h : clerkCheck c = 0) : (0 < c.books.length ∧ c.books.length ≤ 1000 ∧ (lastB c.books).length ≤ 1000 ∧ c.queue.wait.length ≤ 1000 ∧ 1 ≤ c.heads.length ∧ c.heads.length ≤ 40) ∧ (0 ≤ c.now ∧ c.now ≤ 1000000000) ∧ (1 ≤ c.batch ∧ c.batch ≤ 30) ∧ 1 ≤ c.every ∧ c.every ≤ 1000 :=
  let q := clerkCheck_iff.1 h
  ⟨q.bds, q.now, q.batch, q.every⟩
theorem clerkAsk_ok {c : ClerkD} {a : AskD} (h : (clerkAsk c a).2.2 = 0) : ClerkOk c ∧ (queuePut c.queue a).2.2 = 0 ∧ closedB c = false ∧ nn (clerkNs c [a.name]) ≤ 24 ∧ clerkAsk c a = (⟨(queuePut c.queue a).1, c.batch, c.every, c.now, c.heads, c.books⟩, c.now - c.now.tmod c.every + (queueWait (queuePut c.queue a).2.1 c.batch c.every).1, 0) := by
  unfold clerkAsk at h ⊢
  split at h
  · contradiction
  split at h
  · rename_i h1 h2; exact absurd h h2.1
  split at h
  · cases h
  split at h
  · cases h
  · rename_i h1 h2 h3 h4
    rw [if_neg h1, if_neg h2, if_neg h3, if_neg h4]
    simp only [not_or] at h4
    have h5 := h4.2; unfold clerkNames at h5
    exact ⟨clerkCheck_iff.1 (Decidable.not_not.1 h1), by apply Decidable.byContradiction; intro hc; exact h2 ⟨hc, h4.1⟩, by simpa using h3, by omega, rfl⟩
theorem clerkAsk_err {c : ClerkD} {a : AskD} (h : ¬ (clerkAsk c a).2.2 = 0) : (clerkAsk c a).1 = clerkZ ∧ (clerkAsk c a).2.1 = 0 := by
  unfold clerkAsk at h ⊢
  split
  · exact ⟨rfl, rfl⟩
  split
  · exact ⟨rfl, rfl⟩
  split
  · exact ⟨rfl, rfl⟩
  split
  · exact ⟨rfl, rfl⟩
  · rename_i h1 h2 h3 h4; rw [if_neg h1, if_neg h2, if_neg h3, if_neg h4] at h; exact absurd rfl h
theorem clerkAsk_right {c : ClerkD} {a : AskD} (h : (clerkAsk c a).2.2 = 0) : ClerkOk (clerkAsk c a).1 := by
  obtain ⟨ok, hq, _, hn, e⟩ := clerkAsk_ok h
  rw [e]
  obtain ⟨_, _, _, e2⟩ := queuePut_ok hq
  refine ⟨queuePut_check hq, ok.batch, ok.every, ok.now, ok.chain, ok.first, ok.len, ok.at_, ok.root, ?_⟩
  refine Nat.le_trans (nn_mono fun x hx => ?_) hn
  unfold clerkNs at hx ⊢
  rw [e2] at hx
  simp only [askNames, List.map_append, List.map_cons, List.map_nil, List.mem_append, List.mem_singleton, List.not_mem_nil, or_false] at hx ⊢
  rcases hx with h | h | h
  · exact .inl (.inl h)
  · exact .inl (.inr h)
  · exact .inr h
theorem grow_can {c : ClerkD} (h : ClerkOk c) (hc : closedB c = false) {r : Int} (hr : r < 2305843009213693951) : (chainGrow c.heads r (c.now + 1)).2 = 0 ∧ chainGrow c.heads r (c.now + 1) = (c.heads ++ [(headNext (lastH c.heads) r (c.now + 1)).1], 0) ∧ (headNext (lastH c.heads) r (c.now + 1)).2 = 0 := by
  unfold closedB at hc
  simp only [Bool.or_eq_false_iff, decide_eq_false_iff_not] at hc
  have hn := h.now
  have he : (headNext (lastH c.heads) r (c.now + 1)).2 = 0 := by
    have hk : headCheck (lastH c.heads) = 0 := h.chain.ok _ (List.mem_of_getElem? h.chain.last)
    have hl := h.chain.lastE
    have hf := h.first
    have hlen := h.chain.len
    have ha := h.at_
    have hb := headMark_bd (lastH c.heads)
    have hb2 := headCheck_ok hk
    unfold headNext
    have : headNextE (lastH c.heads) r (c.now + 1) = 0 := by
      unfold headNextE
      rw [if_neg (by omega), if_neg (by omega), if_neg (by omega)]
      unfold headCheck
      simp only
      rw [if_neg (by omega), if_neg (by omega)]
    rw [if_neg (by omega)]
  have hg : chainGrowE c.heads r (c.now + 1) = 0 := by
    unfold chainGrowE
    rw [if_neg (by rw [check1_iff.2 h.chain]; simp), if_neg (by exact_mod_cast hc.1), he]
  refine ⟨?_, ?_, he⟩ <;> (unfold chainGrow; rw [if_neg (by omega)])
theorem chainGrow_len (l : List HeadD) (r t : Int) : (chainGrow l r t).1.length ≤ 40 := by
  by_cases h : (chainGrow l r t).2 = 0
  · obtain ⟨_, h2, _, h4⟩ := chainGrow_ok h
    rw [h4]; simp; omega
  · rw [chainGrow_err h]; simp
theorem queueTake_can {c : ClerkD} (h : ClerkOk c) : (queueTake c.queue c.batch).2.2 = 0 ∧ queueTake c.queue c.batch = ((⟨c.queue.most, c.queue.wait.drop (minLen c.batch c.queue.wait)⟩ : QueueD), c.queue.wait.take (minLen c.batch c.queue.wait), (0 : Int)) := by
  have hq := h.queue; have hb := h.batch
  constructor <;> (unfold queueTake; rw [if_neg (by omega), if_neg (by omega)])
theorem tickBook_ok {c : ClerkD} (h : ClerkOk c) : TreeOk (tickBook c) ∧ (∀ s, s ∈ entNames (tickBook c) ↔ s ∈ entNames (lastB c.books) ∨ s ∈ askNames (c.queue.wait.take (minLen c.batch c.queue.wait))) := by
  unfold tickBook
  rw [(queueTake_can h).2]
  refine setAll_ok _ _ (h.book h.last) (fun a ha => (queueCheck_iff.1 h.queue).2.2.2 a (List.mem_of_mem_take ha)) (Nat.le_trans (nn_mono fun x hx => ?_) h.names)
  unfold clerkNs
  rcases List.mem_append.1 hx with q | q
  · simp [q]
  · obtain ⟨a, ha, rfl⟩ := mem_askNames.1 q
    have : a.name ∈ askNames c.queue.wait := mem_askNames.2 ⟨a, List.mem_of_mem_take ha, rfl⟩
    simp [this]
theorem lastB_snoc (l : List (List EntD)) (x : List EntD) : lastB (l ++ [x]) = x := by unfold lastB; simp
theorem firstH_app {l : List HeadD} (h : 1 ≤ l.length) (m : List HeadD) : firstH (l ++ m) = firstH l := by
  unfold firstH; rw [List.getElem?_append_left (by omega)]
theorem lastH_snoc (l : List HeadD) (x : HeadD) : lastH (l ++ [x]) = x := by unfold lastH; simp
structure Ticked (c d : ClerkD) : Prop where
  ok : ClerkOk d
  batch : d.batch = c.batch
  every : d.every = c.every
  heads : ∃ m, d.heads = c.heads ++ m
  books : ∃ m, d.books = c.books ++ m
theorem clerkTick_ok {c : ClerkD} (h : ClerkOk c) : (clerkTick c).2.2 = 0 ∧ Ticked c (clerkTick c).1 := by
  have h0 := clerkCheck_iff.2 h
  unfold clerkTick
  rw [if_neg (by omega)]
  by_cases h1 : closedB c = true
  · rw [if_pos h1]; exact ⟨rfl, h, rfl, rfl, ⟨[], by simp⟩, ⟨[], by simp⟩⟩
  rw [if_neg h1]
  have h1' : closedB c = false := by simpa using h1
  have hnow : c.now + 1 ≤ 1000000000 := by
    have := h.now; unfold closedB at h1'; simp only [Bool.or_eq_false_iff, decide_eq_false_iff_not] at h1'; omega
  by_cases h2 : (c.now + 1).tmod c.every = 0
  · rw [if_neg (by omega)]
    obtain ⟨t1, t2⟩ := tickBook_ok h
    have hroot := treeAtE_of (q := []) t1 (by simp) (by simp)
    have hb := treeAt_bd61 (treeUnder (tickBook c) []) []
    have hr : (treeAtE (tickBook c) []).1 < 2305843009213693951 := by rw [hroot]; exact hb.2
    obtain ⟨g1, g2, g3⟩ := grow_can h h1' hr
    obtain ⟨k1, k2⟩ := linkB_next g3
    obtain ⟨u1, u2⟩ := queueTake_can h
    have hlen1 := h.chain.len1
    have hlt : c.heads.length < 40 := (chainGrow_ok g1).2.1
    rw [g2]
    have hbk := h.len
    have hnx := (headNext_ok g3).2.2.2.1
    refine ⟨rfl, ⟨queueTake_check u1, h.batch, h.every, ⟨by have := h.now; show 0 ≤ c.now + 1; omega, hnow⟩, h.chain.snoc hlt k2 k1, ?_, ?_, ?_, ?_, ?_⟩, rfl, rfl, ⟨_, rfl⟩, ⟨_, rfl⟩⟩
    · show (firstH (c.heads ++ _)).epoch = 0; rw [firstH_app hlen1]; exact h.first
    · simp only [List.length_append, List.length_cons, List.length_nil]; omega
    · show (lastH (c.heads ++ _)).at_ ≤ c.now + 1; rw [lastH_snoc, hnx]; exact Int.le_refl _
    · intro k x hx
      simp only at hx ⊢
      by_cases hk : k < c.books.length
      · rw [List.getElem?_append_left hk] at hx
        rw [List.getElem?_append_left (by omega)]
        exact h.root k x hx
      · rw [List.getElem?_append_right (by omega)] at hx
        have hk2 : k - c.books.length = 0 := by
          have := (List.getElem?_eq_some_iff.1 hx).1; simp at this; omega
        rw [hk2] at hx
        simp only [List.getElem?_cons_zero, Option.some.injEq] at hx
        subst hx
        rw [List.getElem?_append_right (by omega), show k - c.heads.length = 0 by omega]
        refine ⟨by rw [hroot], ?_⟩
        show _ = (headNext _ _ _).1.root
        rw [hnx]
    · refine Nat.le_trans (nn_mono fun x hx => ?_) h.names
      unfold clerkNs at hx ⊢
      simp only [lastB_snoc, List.append_nil] at hx ⊢
      rw [u2] at hx
      rcases List.mem_append.1 hx with q | q
      · rcases (t2 x).1 q with q | q
        · exact List.mem_append.2 (.inl q)
        · obtain ⟨a, ha, rfl⟩ := mem_askNames.1 q
          exact List.mem_append.2 (.inr (mem_askNames.2 ⟨a, List.mem_of_mem_take ha, rfl⟩))
      · obtain ⟨a, ha, rfl⟩ := mem_askNames.1 q
        exact List.mem_append.2 (.inr (mem_askNames.2 ⟨a, List.mem_of_mem_drop ha, rfl⟩))
  · rw [if_pos h2]
    refine ⟨rfl, ⟨h.queue, h.batch, h.every, ⟨by have := h.now; show 0 ≤ c.now + 1; omega, hnow⟩, h.chain, h.first, h.len, ?_, h.root, h.names⟩, rfl, rfl, ⟨[], by simp⟩, ⟨[], by simp⟩⟩
    have := h.at_; show (lastH c.heads).at_ ≤ c.now + 1; omega
theorem tmod_nn {n e : Int} (h : 0 ≤ n) : n.tmod e = n % e := Int.tmod_eq_emod_of_nonneg h
theorem tmod_bd {n e : Int} (h : 0 ≤ n) (he : 1 ≤ e) : 0 ≤ n.tmod e ∧ n.tmod e ≤ n ∧ n.tmod e < e := by
  rw [tmod_nn h]
  have h2 := Int.emod_nonneg n (show e ≠ 0 by omega)
  have h3 := Int.emod_lt_of_pos n (show 0 < e by omega)
  have h1 := Int.emod_add_mul_ediv n e
  have h4 : 0 ≤ e * (n / e) := Int.mul_nonneg (by omega) (Int.ediv_nonneg h (by omega))
  omega
theorem qw_bd (a b e : Int) : 0 ≤ (queueWait a b e).1 ∧ (queueWait a b e).1 ≤ 31000 := by
  unfold queueWait
  split
  · simp
  · have h1 := qdiv_bd (a := a) (b := b) (by omega) (by omega)
    have h2 := qmul_bd (a := a.tdiv b + 1) (b := e) (by omega) (by omega)
    simp only; omega
theorem clerks_law : (clerkNew 1 1 1).2 = 0 ∧ (clerkNew 1 1 1).1.heads.length = 1 := by decide +kernel
theorem closedB_con (G : Mem) (vs_c : List Value) (c : ClerkD) (h_c : EClerk.R G vs_c c)  : ConV 23 #[.agg vs_c.toArray] G (Bo (closedB c)) := by
 obtain ⟨a1, c1, a2, c2, a3, c3, rfl, w1, hs1, w2, w3, w4, hs2, hs3⟩ := h_c
 refine con_of Tryz.func23 12 [(0, .agg #[I c.queue.most, Sl a1 c.queue.wait.length c1, I c.batch, I c.every, I c.now, Sl a2 c.heads.length c2, Sl a3 c.books.length c3])] rfl (fun w0 G0 => ?_)
 refine tc_seq (tc_region ?_)
 refine runL_box 1 #[I c.queue.most, Sl a1 c.queue.wait.length c1, I c.batch, I c.every, I c.now, Sl a2 c.heads.length c2, Sl a3 c.books.length c3] 45 (fun b1 => ?_)
 refine runL_bn [0] [] (runL_nil (tq_then (tc_seq (tc_region ?_))))
 refine runL_bn [0,2,0,0,0] [(7, Bo (decide ((c.heads.length : Int) = 40)))] ?_
 refine runL_b2n (decide ((c.heads.length : Int) = 40)) [7] [1,1,1,0] [0,2,0,0] (fun bb => [(11, Bo (bb || (decide (c.now = 1000000000))))]) ?_
 refine runL_bn [0] [(2, Bo ((decide ((c.heads.length : Int) = 40)) || (decide (c.now = 1000000000))))] (runL_nil (tq_then (tc_ret ?_)))
 refine tq_ret [0] [Bo ((decide ((c.heads.length : Int) = 40)) || (decide (c.now = 1000000000)))] (bp_ret (Mem.le_refl _) (congrArg Bo (?_ : (closedB c) = ((decide ((c.heads.length : Int) = 40)) || (decide (c.now = 1000000000)))).symm))
 rfl
theorem clerks_con (G : Mem)   : ConV 9 #[] G (Bo true) := by
 refine con_of Tryz.func9 15 [] rfl (fun w0 G0 => ?_)
 refine tc_rbn [0] [] (tc_seq (tc_region ?_))
 refine runL_callR 4 (clerkNew_con G 1 (by first | assumption | omega | (simp; done) | (simp; omega)) 1 (by first | assumption | omega | (simp; done) | (simp; omega)) 1 (by first | assumption | omega | (simp; done) | (simp; omega))) (fun v G1 L1 hl1 hp => ?_)
 obtain ⟨a1, c1, a2, c2, a3, c3, rfl, w1, hs1, w2, w3, w4, hs2, hs3, rfl⟩ := hp
 refine runL_bn [0,0,0] [(5, .agg #[I (((clerkNew 1 1 1).1).queue.most), Sl a1 ((((clerkNew 1 1 1).1).queue.wait).length) c1, I (((clerkNew 1 1 1).1).batch), I (((clerkNew 1 1 1).1).every), I (((clerkNew 1 1 1).1).now), Sl a2 ((((clerkNew 1 1 1).1).heads).length) c2, Sl a3 ((((clerkNew 1 1 1).1).books).length) c3]), (6, I ((clerkNew 1 1 1).2))] ?_
 refine runL_box 1 #[I 0, Sl none 0 0, I 0, I 0, I 0, Sl none 0 0, Sl none 0 0] 45 (fun b1 => ?_)
 refine runL_bsn [3,0] [(2, I ((clerkNew 1 1 1).2))] [[Sg b1 0 [I (((clerkNew 1 1 1).1).queue.most), Sl a1 ((((clerkNew 1 1 1).1).queue.wait).length) c1, I (((clerkNew 1 1 1).1).batch), I (((clerkNew 1 1 1).1).every), I (((clerkNew 1 1 1).1).now), Sl a2 ((((clerkNew 1 1 1).1).heads).length) c2, Sl a3 ((((clerkNew 1 1 1).1).books).length) c3]]] (runL_nil (tq_then (tc_seq (tc_region ?_))))
 refine runL_bn [0,0,0] [(9, Bo (decide ((clerkNew 1 1 1).2 = 0)))] ?_
 refine runL_b2n (decide ((clerkNew 1 1 1).2 = 0)) [9] [0,2,0,0,0] [1,1,1,1,0] (fun bb => [(14, Bo (bb && (decide (((((clerkNew 1 1 1).1).heads).length : Int) = 1))))]) ?_
 refine runL_bn [0] [(0, Bo ((decide ((clerkNew 1 1 1).2 = 0)) && (decide (((((clerkNew 1 1 1).1).heads).length : Int) = 1))))] (runL_nil (tq_then (tc_ret ?_)))
 refine tq_ret [0] [Bo ((decide ((clerkNew 1 1 1).2 = 0)) && (decide (((((clerkNew 1 1 1).1).heads).length : Int) = 1)))] (bp_ret hl1 ?_)
 have hf_ : ((decide ((clerkNew 1 1 1).2 = 0)) && (decide (((((clerkNew 1 1 1).1).heads).length : Int) = 1))) = true := by
  have q_ := clerks_law; first | (simp [q_]; done) | (simp_all; done)
 exact congrArg Bo hf_
end Go.Proofs.YtpofnmobbbcpgaaGreatDoor
