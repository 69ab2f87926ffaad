import Derived.Test.YtmpakffajpnffaaGreatDoorXTick
namespace Go.Proofs.YtmpakffajpnffaaGreatDoor
open Go.Tx
set_option linter.unusedVariables false
set_option linter.unusedSimpArgs false

open Go.Tx Go.Proofs
/-! ### What is asked for is in a book in time -/
theorem set_step {a : AskD} {l : List AskD} {b : List EntD} (h : TreeOk b) (hr : ∀ x ∈ a :: l, queueRight x = 0) (hn : nn (entNames b ++ askNames (a :: l)) ≤ 24) :
    (treeSet b a.name a.value).2 = 0 ∧ TreeOk (treeSet b a.name a.value).1 ∧ (∀ x ∈ l, queueRight x = 0) ∧ nn (entNames (treeSet b a.name a.value).1 ++ askNames l) ≤ 24 := by
  have ha := askR_tree (hr a (by simp))
  have hf : a.name ∈ entNames b ∨ b.length < 24 := by
    by_cases e : a.name ∈ entNames b
    · exact .inl e
    · right
      have h1 : (a.name :: entNames b).Nodup := List.nodup_cons.2 ⟨e, names_nodup h⟩
      have h2 := nn_nodup h1
      have h3 : nn (a.name :: entNames b) ≤ nn (entNames b ++ askNames (a :: l)) := nn_mono fun x hx => by
        rcases List.mem_cons.1 hx with rfl | hx
        · exact List.mem_append.2 (.inr (mem_askNames.2 ⟨a, by simp, rfl⟩))
        · exact List.mem_append.2 (.inl hx)
      simp only [List.length_cons] at h2
      have : (entNames b).length = b.length := by simp [entNames]
      omega
  have hs := treeSet_can h ha hf
  refine ⟨hs, (treeSet_ok hs).2.2.1, fun x hx => hr x (by simp [hx]), Nat.le_trans (nn_mono fun s hs' => ?_) hn⟩
  rcases List.mem_append.1 hs' with q | q
  · rcases (set_names hs).1 q with rfl | q
    · exact List.mem_append.2 (.inr (mem_askNames.2 ⟨a, by simp, rfl⟩))
    · exact List.mem_append.2 (.inl q)
  · exact List.mem_append.2 (.inr (by simp only [askNames, List.map_cons, List.mem_cons]; exact .inr q))
theorem setAll_keep : ∀ (l : List AskD) (b : List EntD) (x : EntD), TreeOk b → (∀ a ∈ l, queueRight a = 0) → nn (entNames b ++ askNames l) ≤ 24 → x ∈ b → (∀ a ∈ l, a.name ≠ x.name) → x ∈ setAll b l
  | [], b, x, _, _, _, hx, _ => hx
  | a :: l, b, x, h, hr, hn, hx, hne => by
    obtain ⟨h1, h2, h3, h4⟩ := set_step h hr hn
    exact setAll_keep l _ x h2 h3 h4 (((treeSet_ok h1).2.2.2 x).2 (.inr ⟨hx, fun e => hne a (by simp) e.symm⟩)) (fun y hy => hne y (by simp [hy]))
theorem setAll_has : ∀ (l : List AskD) (b : List EntD) (p : Nat) (a : AskD), TreeOk b → (∀ a ∈ l, queueRight a = 0) → nn (entNames b ++ askNames l) ≤ 24 → l[p]? = some a → (∀ q x, q ≠ p → l[q]? = some x → x.name ≠ a.name) → (⟨a.name, a.value⟩ : EntD) ∈ setAll b l
  | [], b, p, a, _, _, _, hp, _ => by simp at hp
  | y :: l, b, p, a, h, hr, hn, hp, hne => by
    obtain ⟨h1, h2, h3, h4⟩ := set_step h hr hn
    cases p with
    | zero =>
      simp only [List.getElem?_cons_zero, Option.some.injEq] at hp
      subst hp
      refine setAll_keep l _ _ h2 h3 h4 (((treeSet_ok h1).2.2.2 _).2 (.inl rfl)) (fun x hx => ?_)
      obtain ⟨k, hk⟩ := List.getElem?_of_mem hx
      exact hne (k + 1) x (by omega) (by simpa using hk)
    | succ p => exact setAll_has l _ p a h2 h3 h4 (by simpa using hp) (fun q x hq hx => hne (q + 1) x (by omega) (by simpa using hx))
theorem mod_succ {n e : Int} (he : 1 ≤ e) : (n + 1) % e = if n % e + 1 = e then 0 else n % e + 1 := by
  have h1 := Int.emod_add_mul_ediv n e
  have h2 := Int.emod_nonneg n (show e ≠ 0 by omega)
  have h3 := Int.emod_lt_of_pos n (show 0 < e by omega)
  generalize n % e = r at *
  generalize n / e = q at *
  subst h1
  rw [show r + e * q + 1 = (r + 1) + e * q by omega, Int.add_mul_emod_self_left]
  split
  · rename_i h; rw [h]; exact Int.emod_self
  · rename_i h; exact Int.emod_eq_of_lt (by omega) (by omega)
structure DueInv (c : ClerkD) (a : AskD) (due : Int) (more : List AskD) (x : ClerkD) : Prop where
  ok : ClerkOk x
  books : ∃ m, x.books = c.books ++ m
  now : x.now ≤ due
  main : (∀ b ∈ c.queue.wait ++ more, b.name ≠ a.name) →
    (∃ p : Nat, x.queue.wait[p]? = some a ∧ (∀ q b, q ≠ p → x.queue.wait[q]? = some b → b.name ≠ a.name) ∧ due = x.now - x.now % x.every + ((p : Int) / x.batch + 1) * x.every) ∨
    (∃ (k : Nat) (b : List EntD) (h : HeadD), c.books.length ≤ k ∧ x.books[k]? = some b ∧ x.heads[k]? = some h ∧ treeGet b a.name = (a.value, true, 0) ∧ h.at_ ≤ due)
theorem due_start {c : ClerkD} {a : AskD} (more : List AskD) (h : (clerkAsk c a).2.2 = 0) : DueInv c a (clerkAsk c a).2.1 more (clerkAsk c a).1 ∧ c.now < (clerkAsk c a).2.1 ∧ (clerkAsk c a).1.now = c.now ∧ (clerkAsk c a).2.1 ≤ c.now + 31000 := by
  have hok := clerkAsk_right h
  obtain ⟨ok, hq, _, _, e⟩ := clerkAsk_ok h
  obtain ⟨q1, q2, q3, q4⟩ := queuePut_ok hq
  obtain ⟨r1, r2, r3, _⟩ := queueCheck_iff.1 q1
  have hw : queueWait (c.queue.wait.length : Int) c.batch c.every = (((c.queue.wait.length : Int) / c.batch + 1) * c.every, 0) := by
    have hb := ok.batch; have he := ok.every
    have : (queueWait (c.queue.wait.length : Int) c.batch c.every).2 = 0 := by unfold queueWait; rw [if_neg (by omega)]
    exact (queueWait_ok this).2.2.2.2.2.2
  have hd : (clerkAsk c a).2.1 = c.now - c.now % c.every + ((c.queue.wait.length : Int) / c.batch + 1) * c.every := by
    rw [e, q4]; simp only; rw [hw, tmod_nn ok.now.1]
  have hx : (clerkAsk c a).1 = ⟨⟨c.queue.most, c.queue.wait ++ [a]⟩, c.batch, c.every, c.now, c.heads, c.books⟩ := by rw [e, q4]
  have he := ok.every; have hb := ok.batch
  have m1 := Int.emod_nonneg c.now (show c.every ≠ 0 by omega)
  have m2 := Int.emod_lt_of_pos c.now (show 0 < c.every by omega)
  have d0 : 0 ≤ (c.queue.wait.length : Int) / c.batch := Int.ediv_nonneg (by omega) (by omega)
  have d1 : (c.queue.wait.length : Int) / c.batch ≤ 30 := by
    have := Int.ediv_le_self c.batch (show 0 ≤ (c.queue.wait.length : Int) by omega); omega
  have p1 : c.every ≤ ((c.queue.wait.length : Int) / c.batch + 1) * c.every := by
    have := Int.mul_le_mul_of_nonneg_right (show (1 : Int) ≤ (c.queue.wait.length : Int) / c.batch + 1 by omega) (show 0 ≤ c.every by omega); omega
  have p2 : ((c.queue.wait.length : Int) / c.batch + 1) * c.every ≤ 31 * 1000 := Int.mul_le_mul (by omega) (by omega) (by omega) (by omega)
  refine ⟨⟨hok, ⟨[], by rw [hx]; simp⟩, by rw [hd, hx]; simp only; omega, fun hne => .inl ⟨c.queue.wait.length, by rw [hx]; simp, ?_, by rw [hd, hx]⟩⟩, by rw [hd]; omega, by rw [hx], by rw [hd]; omega⟩
  intro q b hq hb'
  rw [hx] at hb'
  simp only at hb'
  have hl := (List.getElem?_eq_some_iff.1 hb').1
  simp only [List.length_append, List.length_cons, List.length_nil] at hl
  rw [List.getElem?_append_left (by omega)] at hb'
  exact hne b (by simp [List.mem_of_getElem? hb'])
theorem due_ask {c x : ClerkD} {a b : AskD} {due : Int} {more : List AskD} (h : DueInv c a due more x) (hb : b ∈ more) (hk : (clerkAsk x b).2.2 = 0) : DueInv c a due more (clerkAsk x b).1 ∧ (clerkAsk x b).1.now = x.now := by
  have hok := clerkAsk_right hk
  obtain ⟨ok, hq, _, _, e⟩ := clerkAsk_ok hk
  obtain ⟨q1, q2, q3, q4⟩ := queuePut_ok hq
  have hx : (clerkAsk x b).1 = ⟨⟨x.queue.most, x.queue.wait ++ [b]⟩, x.batch, x.every, x.now, x.heads, x.books⟩ := by rw [e, q4]
  refine ⟨⟨hok, by rw [hx]; exact h.books, by rw [hx]; exact h.now, fun hne => ?_⟩, by rw [hx]⟩
  rcases h.main hne with ⟨p, h1, h2, h3⟩ | h1
  · left
    have hp := (List.getElem?_eq_some_iff.1 h1).1
    refine ⟨p, by rw [hx]; simp only; rw [List.getElem?_append_left hp]; exact h1, ?_, by rw [hx]; exact h3⟩
    intro q z hq hz
    rw [hx] at hz
    simp only at hz
    by_cases hl : q < x.queue.wait.length
    · rw [List.getElem?_append_left hl] at hz; exact h2 q z hq hz
    · rw [List.getElem?_append_right (by omega)] at hz
      have := List.mem_of_getElem? hz
      simp only [List.mem_singleton] at this
      subst this
      exact hne z (by simp [hb])
  · right; rw [hx]; exact h1
theorem due_tick {c x : ClerkD} {a : AskD} {due : Int} {more : List AskD} (h : DueInv c a due more x) (hlt : x.now < due) (hk : ¬ (clerkTick x).1.now = x.now) : DueInv c a due more (clerkTick x).1 ∧ (clerkTick x).1.now = x.now + 1 := by
  obtain ⟨t0, t1⟩ := clerkTick_ok h.ok
  obtain ⟨hc, hn⟩ : closedB x = false ∧ (clerkTick x).1.now = x.now + 1 := by
    rcases clerkTick_now h.ok with h1 | h1
    · exact absurd h1.1 hk
    · exact h1
  have he := h.ok.every; have hbt := h.ok.batch; have hnow := h.ok.now
  obtain ⟨m, hm⟩ := h.books
  obtain ⟨m', hm'⟩ := t1.books
  refine ⟨⟨t1.ok, ⟨m ++ m', by rw [hm', hm, List.append_assoc]⟩, by omega, fun hne => ?_⟩, hn⟩
  obtain ⟨mh, hmh⟩ := t1.heads
  rcases h.main hne with ⟨p, h1, h2, h3⟩ | ⟨k, b, hd, k1, k2, k3, k4, k5⟩
  · have hms := mod_succ (n := x.now) he.1
    have m1 := Int.emod_nonneg x.now (show x.every ≠ 0 by omega)
    have m2 := Int.emod_lt_of_pos x.now (show 0 < x.every by omega)
    have hp := (List.getElem?_eq_some_iff.1 h1).1
    by_cases hz : (x.now + 1).tmod x.every = 0
    · have hz' : (x.now + 1) % x.every = 0 := by rw [← tmod_nn (by omega)]; exact hz
      have hr : x.now % x.every + 1 = x.every := by
        rw [hz'] at hms
        split at hms
        · assumption
        · omega
      obtain ⟨u1, u2⟩ := queueTake_can h.ok
      have hx : (clerkTick x).1 = ⟨⟨x.queue.most, x.queue.wait.drop (minLen x.batch x.queue.wait)⟩, x.batch, x.every, x.now + 1, (chainGrow x.heads (treeAtE (tickBook x) []).1 (x.now + 1)).1, x.books ++ [tickBook x]⟩ := by
        unfold clerkTick
        rw [if_neg (by rw [clerkCheck_iff.2 h.ok]; simp), if_neg (by rw [hc]; simp), if_neg (by omega), u2]
      by_cases hpn : p < minLen x.batch x.queue.wait
      · right
        have hpb : (p : Int) < x.batch := by have : (minLen x.batch x.queue.wait : Int) ≤ x.batch := by (unfold minLen; split <;> omega)
                                             omega
        have hdue : due = x.now + 1 := by
          rw [h3, Int.ediv_eq_zero_of_lt (by omega) hpb]; omega
        obtain ⟨b1, b2⟩ := tickBook_ok h.ok
        have hq := (queueCheck_iff.1 h.ok.queue).2.2.2
        have hin : (⟨a.name, a.value⟩ : EntD) ∈ tickBook x := by
          unfold tickBook; rw [u2]
          refine setAll_has _ _ p a (h.ok.book h.ok.last) (fun y hy => hq y (List.mem_of_mem_take hy)) (Nat.le_trans (nn_mono fun y hy => ?_) h.ok.names) (by simp only; rw [List.getElem?_take, if_pos hpn]; exact h1) (fun q y hqp hy => ?_)
          · unfold clerkNs
            rcases List.mem_append.1 hy with q | q
            · simp [q]
            · obtain ⟨z, hz, rfl⟩ := mem_askNames.1 q
              have : z.name ∈ askNames x.queue.wait := mem_askNames.2 ⟨z, List.mem_of_mem_take hz, rfl⟩
              simp [this]
          · simp only at hy
            rw [List.getElem?_take] at hy
            split at hy
            · exact h2 q y hqp hy
            · cases hy
        have hpath := (right_bd (askR_tree (hq a (List.mem_of_getElem? h1)))).2.2
        have hget := treeGet_in b1 hin hpath
        have hroot := treeAtE_of (q := []) b1 (by simp) (by simp)
        have hrb : (treeAtE (tickBook x) []).1 < 2305843009213693951 := by rw [hroot]; exact (treeAt_bd61 _ _).2
        obtain ⟨g1, g2, g3⟩ := grow_can h.ok hc hrb
        have hnx := (headNext_ok g3).2.2.2.1
        refine ⟨x.books.length, tickBook x, (headNext (lastH x.heads) (treeAtE (tickBook x) []).1 (x.now + 1)).1, by rw [hm]; simp, by rw [hx]; simp, ?_, hget, ?_⟩
        · rw [hx, g2, h.ok.len]; simp
        · rw [hnx]; simp only; omega
      · left
        have hmin : minLen x.batch x.queue.wait = x.batch.toNat := by
          unfold minLen at hpn ⊢
          split at hpn
          · omega
          · rename_i hh; rw [if_neg hh]
        have hpb : x.batch.toNat ≤ p := by omega
        refine ⟨p - x.batch.toNat, ?_, ?_, ?_⟩
        · rw [hx]; simp only; rw [hmin, List.getElem?_drop, show x.batch.toNat + (p - x.batch.toNat) = p by omega]; exact h1
        · intro q z hq hzz
          rw [hx] at hzz
          simp only at hzz
          rw [hmin, List.getElem?_drop] at hzz
          exact h2 _ z (by omega) hzz
        · rw [hx]; simp only
          rw [hz', h3]
          have hd : (((p - x.batch.toNat : Nat) : Int)) / x.batch = (p : Int) / x.batch - 1 := by
            have : (p : Int) = ((p - x.batch.toNat : Nat) : Int) + 1 * x.batch := by omega
            rw [this, Int.add_mul_ediv_right _ _ (by omega)]; omega
          rw [hd, show (p : Int) / x.batch - 1 + 1 = (p : Int) / x.batch by omega, Int.add_mul]; omega
    · left
      have hx : (clerkTick x).1 = ⟨x.queue, x.batch, x.every, x.now + 1, x.heads, x.books⟩ := by
        unfold clerkTick
        rw [if_neg (by rw [clerkCheck_iff.2 h.ok]; simp), if_neg (by rw [hc]; simp), if_pos hz]
      have hr : (x.now + 1) % x.every = x.now % x.every + 1 := by
        rw [hms]
        split
        · rename_i hh; rw [tmod_nn (by omega), hms, if_pos hh] at hz; exact absurd rfl hz
        · rfl
      exact ⟨p, by rw [hx]; exact h1, by rw [hx]; exact h2, by rw [hx]; simp only; rw [hr, h3]; omega⟩
  · right
    exact ⟨k, b, hd, k1, by rw [hm', List.getElem?_append_left (List.getElem?_eq_some_iff.1 k2).1]; exact k2, by rw [hmh, List.getElem?_append_left (List.getElem?_eq_some_iff.1 k3).1]; exact k3, k4, k5⟩
theorem due_end {c x : ClerkD} {a : AskD} {due : Int} {more : List AskD} (h : DueInv c a due more x) (hn : ¬ x.now < due) (hne : ∀ b ∈ c.queue.wait ++ more, b.name ≠ a.name) : ∃ (k : Nat) (b : List EntD) (h : HeadD), c.books.length ≤ k ∧ x.books[k]? = some b ∧ x.heads[k]? = some h ∧ treeGet b a.name = (a.value, true, 0) ∧ h.at_ ≤ due := by
  rcases h.main hne with ⟨p, h1, h2, h3⟩ | h1
  · exfalso
    have he := h.ok.every; have hb := h.ok.batch
    have m2 := Int.emod_lt_of_pos x.now (show 0 < x.every by omega)
    have d0 : 0 ≤ (p : Int) / x.batch := Int.ediv_nonneg (by omega) (by omega)
    have p1 : x.every ≤ ((p : Int) / x.batch + 1) * x.every := by
      have := Int.mul_le_mul_of_nonneg_right (show (1 : Int) ≤ (p : Int) / x.batch + 1 by omega) (show 0 ≤ x.every by omega); omega
    omega
  · exact h1
theorem due_next {c x : ClerkD} {a : AskD} {due : Int} {more : List AskD} (h : DueInv c a due more x) (hlt : x.now < due) (hk : ¬ (clerkTick x).1.now = x.now) {i : Nat} (hi : x.now = c.now + i) : DueInv c a due more (clerkTick x).1 ∧ (clerkTick x).1.now = c.now + ((i + 1 : Nat) : Int) := by
  obtain ⟨h1, h2⟩ := due_tick h hlt hk
  exact ⟨h1, by rw [h2]; omega⟩
theorem due_next2 {c x : ClerkD} {a b : AskD} {due : Int} {more : List AskD} (h : DueInv c a due more x) (hlt : x.now < due) {j : Nat} (hb : more[j]? = some b) (hk : (clerkAsk x b).2.2 = 0) (hn : ¬ (clerkTick (clerkAsk x b).1).1.now = (clerkAsk x b).1.now) {i : Nat} (hi : x.now = c.now + i) : DueInv c a due more (clerkTick (clerkAsk x b).1).1 ∧ (clerkTick (clerkAsk x b).1).1.now = c.now + ((i + 1 : Nat) : Int) := by
  obtain ⟨h1, h2⟩ := due_ask h (List.mem_of_getElem? hb) hk
  exact due_next h1 (by rw [h2]; exact hlt) hn (by rw [h2]; exact hi)
theorem due_tk {c x : ClerkD} {a : AskD} {due : Int} {more : List AskD} (h : DueInv c a due more x) : (clerkTick x).2.2 = 0 := (clerkTick_ok h.ok).1
theorem due_tk2 {c x : ClerkD} {a b : AskD} {due : Int} {more : List AskD} (h : DueInv c a due more x) {j : Nat} (hb : more[j]? = some b) (hk : (clerkAsk x b).2.2 = 0) : (clerkTick (clerkAsk x b).1).2.2 = 0 := (clerkTick_ok (due_ask h (List.mem_of_getElem? hb) hk).1.ok).1
def DueHit (x : ClerkD) (a : AskD) (due : Int) (k : Nat) : Prop := ∃ b h, x.books[k]? = some b ∧ x.heads[k]? = some h ∧ treeGet b a.name = (a.value, true, 0) ∧ h.at_ ≤ due
theorem hit_next {x : ClerkD} {a : AskD} {due : Int} {m k : Nat} (h : ∀ j, m ≤ j → j < k → ¬ DueHit x a due j) (hk : ¬ DueHit x a due k) : ∀ j, m ≤ j → j < k + 1 → ¬ DueHit x a due j := fun j h1 h2 => by
  by_cases e : j = k
  · subst e; exact hk
  · exact h j h1 (by omega)
theorem hit_a {x : ClerkD} {a : AskD} {due : Int} {k : Nat} {b : List EntD} (hb : x.books[k]? = some b) (h : ¬ (treeGet b a.name).2.2 = 0 ∨ (treeGet b a.name).2.1 = false ∨ ¬ (treeGet b a.name).1 = a.value) : ¬ DueHit x a due k := by
  rintro ⟨b', _, q1, _, q3, _⟩
  rw [hb] at q1
  obtain rfl := Option.some.inj q1
  rw [q3] at h
  simp at h
theorem hit_c {x : ClerkD} {a : AskD} {due : Int} {k : Nat} {b : List EntD} (hb : x.books[k]? = some b) (h : (treeGet b a.name).2.2 = 0 ∧ (treeGet b a.name).2.1 = true → ¬ (treeGet b a.name).1 = a.value) : ¬ DueHit x a due k := by
  refine hit_a (due := due) hb ?_
  by_cases h1 : (treeGet b a.name).2.2 = 0
  · by_cases h2 : (treeGet b a.name).2.1 = true
    · exact .inr (.inr (h ⟨h1, h2⟩))
    · exact .inr (.inl (by simpa using h2))
  · exact .inl h1
theorem hit_b {x : ClerkD} {a : AskD} {due : Int} {k : Nat} {h : HeadD} (hh : x.heads[k]? = some h) (hd : ¬ h.at_ ≤ due) : ¬ DueHit x a due k := by
  rintro ⟨_, h', _, q2, _, q4⟩
  rw [hh] at q2
  obtain rfl := Option.some.inj q2
  exact hd q4
theorem due_fin {c x : ClerkD} {a : AskD} {due : Int} {more : List AskD} {k : Nat} (h : DueInv c a due more x) (hn : ¬ x.now < due) (hk : ∀ j, c.books.length ≤ j → j < k → ¬ DueHit x a due j) (hl : x.books.length ≤ k) : ((c.queue.wait ++ more).any fun b => b.name == a.name) = true := by
  rw [List.any_eq_true]
  apply Decidable.byContradiction
  intro hc
  obtain ⟨j, b, hd, q1, q2, q3, q4, q5⟩ := due_end h hn (fun b hb e => hc ⟨b, hb, by simpa using e⟩)
  exact hk j q1 (Nat.lt_of_lt_of_le (List.getElem?_eq_some_iff.1 q2).1 hl) ⟨b, hd, q2, q3, q4, q5⟩
theorem due_len {c x : ClerkD} {a : AskD} {due : Int} {more : List AskD} (h : DueInv c a due more x) : c.books.length ≤ x.books.length ∧ x.books.length ≤ 40 ∧ x.heads.length = x.books.length ∧ x.now ≤ due := by
  obtain ⟨m, hm⟩ := h.books
  have := h.ok.len; have := h.ok.chain.len
  exact ⟨by rw [hm]; simp, by omega, by omega, h.now⟩
def dueSame (b a : AskD) : Bool := b.name == a.name

theorem dueSame_con (G : Mem) (vs_b : List Value) (b : AskD) (h_b : EAsk.R G vs_b b) (vs_a : List Value) (a : AskD) (h_a : EAsk.R G vs_a a) (b_a : Nat) (hz_a : ∀ j v, (vs_a : List Value)[j]? = some v → G b_a (0 + j) = some v)  : Con Tryz.prog 25 #[.agg vs_b.toArray, Pt b_a 0] G [] (fun u G' L' => u = Bo (dueSame b a)) := by
 obtain ⟨rfl, w1, w2, w3, w4⟩ := h_b
 obtain ⟨rfl, w5, w6, w7, w8⟩ := h_a
 refine con_of Tryz.func25 9 [(0, .agg #[Sr b.name, Sr b.value, U b.n, U b.tag]), (1, Pt b_a 0)] rfl (fun w0 G0 => ?_)
 refine tc_seq ?_
 refine tc_region ?_
 refine runL_box 2 #[Sr b.name, Sr b.value, U b.n, U b.tag] 54 (fun b1 => ?_)
 refine runL_b [0] [(1, Pt b_a 0), (2, Pt b1 0)] ?_
 refine runL_nil ?_
 refine tq_then ?_
 refine tc_seq ?_
 refine tc_region ?_
 refine runL_b [0,2,0] [(5, Sr b.name), (6, Pt b_a 0)] ?_
 refine runL_ldG (o' := 0) 7 9 (cs := [Sr a.name, Sr a.value, U a.n, U a.tag]) 0 (Sr a.name) hz_a ?_
 refine runL_b [0,0] [(3, Bo (((B b.name).toList == (B a.name).toList)))] ?_
 refine runL_eq (fr' := [(3, Bo ((b.name == a.name)))]) (L' := [[Sg b1 0 [Sr b.name, Sr b.value, U b.n, U b.tag]]]) (by simp only [B_toList]) (by rfl) ?_
 refine runL_nil ?_
 refine tq_then ?_
 refine tc_ret ?_
 refine tq_ret [0] [Bo ((b.name == a.name))] (bp_ret (Mem.le_refl _) ?_)
 have hf_ : (dueSame b a) = ((b.name == a.name)) := by
  rfl
 (try rw [hf_]); first | with_reducible rfl | (simp only [packR]; done) | rfl

theorem clerkDue_con (G : Mem) (vs_c : List Value) (c : ClerkD) (h_c : EClerk.R G vs_c c) (vs_a : List Value) (a : AskD) (h_a : EAsk.R G vs_a a) (a_more : Option Addr) (c_more : Nat) (more : List AskD) (h_more : RS EAsk G a_more c_more more) (hf_more : more.length * 48 ≤ 140737488351232) : Con Tryz.prog 5 #[.agg vs_c.toArray, .agg vs_a.toArray, Sl a_more more.length c_more] G [] (fun u G' L' => u = Bo true) := by
  obtain ⟨a1, c1, a2, c2, a3, c3, rfl, w1, hs1, w2, w3, w4, hs2, hs3⟩ := h_c
  obtain ⟨rfl, w5, w6, w7, w8⟩ := h_a
  refine con_of Tryz.func5 137 [(0, .agg #[I c.queue.most, Sl a1 c.queue.wait.length c1, I c.batch, I c.every, I c.now, Sl a2 c.heads.length c2, Sl a3 c.books.length c3]), (1, .agg #[Sr a.name, Sr a.value, U a.n, U a.tag]), (2, Sl a_more more.length c_more)] rfl (fun w0 G0 => ?_)
  refine tc_seq ?_
  refine tc_region ?_
  refine runL_box 3 #[I c.queue.most, Sl a1 c.queue.wait.length c1, I c.batch, I c.every, I c.now, Sl a2 c.heads.length c2, Sl a3 c.books.length c3] 28 (fun b1 => ?_)
  refine runL_box 4 #[Sr a.name, Sr a.value, U a.n, U a.tag] 54 (fun b2 => ?_)
  refine runL_b [0] [(2, Sl a_more more.length c_more), (3, Pt b1 0), (4, Pt b2 0)] ?_
  refine runL_nil ?_
  refine tq_then ?_
  refine tc_seq ?_
  refine tc_seq ?_
  refine tc_region ?_
  refine runL_callV 21 (Bo true) (clerks_con G) ?_
  refine runL_b [0] [(2, Sl a_more more.length c_more), (3, Pt b1 0), (4, Pt b2 0), (22, Bo false)] ?_
  refine runL_nil ?_
  refine tq_then ?_
  refine tc_cond_false ?_
  refine tc_skip ?_
  refine tq_then ?_
  refine tc_seq ?_
  refine tc_region ?_
  refine runL_b [4,2] [(2, Sl a_more more.length c_more), (3, Pt b1 0), (4, Pt b2 0), (24, .agg #[I c.queue.most, Sl a1 c.queue.wait.length c1, I c.batch, I c.every, I c.now, Sl a2 c.heads.length c2, Sl a3 c.books.length c3]), (25, .agg #[Sr a.name, Sr a.value, U a.n, U a.tag])] ?_
  refine runL_callR 26 (clerkAsk_con G [I c.queue.most, Sl a1 c.queue.wait.length c1, I c.batch, I c.every, I c.now, Sl a2 c.heads.length c2, Sl a3 c.books.length c3] c (⟨a1, c1, a2, c2, a3, c3, rfl, w1, hs1, w2, w3, w4, hs2, hs3⟩) [Sr a.name, Sr a.value, U a.n, U a.tag] a (⟨rfl, w5, w6, w7, w8⟩)) (fun v G1 L1 hl1 hp => ?_)
  obtain ⟨a4, c4, a5, c5, a6, c6, rfl, w9, hs4, w10, w11, w12, hs5, hs6, w13, rfl⟩ := hp
  refine runL_b [0,0,0,0] [(2, Sl a_more more.length c_more), (3, Pt b1 0), (4, Pt b2 0), (27, .agg #[I (((clerkAsk c a).1).queue.most), Sl a4 ((((clerkAsk c a).1).queue.wait).length) c4, I (((clerkAsk c a).1).batch), I (((clerkAsk c a).1).every), I (((clerkAsk c a).1).now), Sl a5 ((((clerkAsk c a).1).heads).length) c5, Sl a6 ((((clerkAsk c a).1).books).length) c6]), (28, I ((clerkAsk c a).2.1)), (29, I ((clerkAsk c a).2.2))] ?_
  refine runL_box 7 #[I 0, Sl none 0 0, I 0, I 0, I 0, Sl none 0 0, Sl none 0 0] 28 (fun b3 => ?_)
  refine runL_bs [3,0,0] [(2, Sl a_more more.length c_more), (3, Pt b1 0), (4, Pt b2 0), (7, Pt b3 0), (8, I ((clerkAsk c a).2.1)), (9, I ((clerkAsk c a).2.2))] [[Sg b3 0 [I (((clerkAsk c a).1).queue.most), Sl a4 ((((clerkAsk c a).1).queue.wait).length) c4, I (((clerkAsk c a).1).batch), I (((clerkAsk c a).1).every), I (((clerkAsk c a).1).now), Sl a5 ((((clerkAsk c a).1).heads).length) c5, Sl a6 ((((clerkAsk c a).1).books).length) c6]], [Sg b2 0 [Sr a.name, Sr a.value, U a.n, U a.tag]], [Sg b1 0 [I c.queue.most, Sl a1 c.queue.wait.length c1, I c.batch, I c.every, I c.now, Sl a2 c.heads.length c2, Sl a3 c.books.length c3]]] ?_
  refine runL_nil ?_
  refine tq_then ?_
  refine tc_seq ?_
  refine tc_rb [0,0] [(2, Sl a_more more.length c_more), (3, Pt b1 0), (4, Pt b2 0), (7, Pt b3 0), (8, I ((clerkAsk c a).2.1)), (31, Bo (!decide ((clerkAsk c a).2.2 = 0)))] ?_
  refine tc_cond (!decide ((clerkAsk c a).2.2 = 0)) (fun h1 => ?_) (fun h1 => ?_)
  ·
    try simp only [decide_eq_true_eq, decide_eq_false_iff_not, Bool.and_eq_true, Bool.or_eq_true, Bool.and_eq_false_imp, Bool.or_eq_false_iff, Bool.not_eq_true', Bool.not_eq_false', Bool.not_eq_true, Bool.not_eq_false, beq_iff_eq, beq_eq_false_iff_ne, bne_iff_ne, ne_eq, Decidable.not_not, Int.not_lt, Int.not_le] at h1
    refine tc_seq ?_
    refine tc_region ?_
    refine runL_b [0,2,0,0,0] [(8, I ((clerkAsk c a).2.1)), (36, Bo (decide ((((((clerkAsk c a).1).heads).length : Nat) : Int) = 0)))] ?_
    refine runL_b2 (decide ((((((clerkAsk c a).1).heads).length : Nat) : Int) = 0)) (fun bb => [(8, I ((clerkAsk c a).2.1)), (36, Bo bb)]) [0,0,0] [1,1,0] (fun bb => [(39, Bo (bb && (decide ((clerkAsk c a).2.1 = 0))))]) ?_
    refine runL_b [0] [(6, Bo ((decide ((((((clerkAsk c a).1).heads).length : Nat) : Int) = 0)) && (decide ((clerkAsk c a).2.1 = 0))))] ?_
    refine runL_nil ?_
    refine tq_then ?_
    refine tc_ret ?_
    refine tq_then_ret ?_
    refine tq_ret [0] [Bo ((decide ((((((clerkAsk c a).1).heads).length : Nat) : Int) = 0)) && (decide ((clerkAsk c a).2.1 = 0)))] (bp_ret hl1 ?_)
    have hf_ : ((decide ((((((clerkAsk c a).1).heads).length : Nat) : Int) = 0)) && (decide ((clerkAsk c a).2.1 = 0))) = true := by
      first | rfl | (obtain ⟨q1_, q2_⟩ := clerkAsk_err (by assumption); rw [q1_, q2_]; rfl) | (have q_ := clerkAsk_err (by assumption); simp_all [clerkZ]; done) | (have q_ := due_start (c := c) (a := a) more (by assumption); obtain ⟨q1_, q2_, q3_, q4_⟩ := q_; have q5_ := (clerkAsk_ok (c := c) (a := a) (by assumption)).1.now; simp; omega) | (exact absurd (due_tk hI) (by assumption)) | (exact absurd (due_tk2 hI (by assumption) (by assumption)) (by assumption)) | exact due_fin hI (by omega) hK (by omega)
    exact congrArg Bo hf_
  ·
    try simp only [decide_eq_true_eq, decide_eq_false_iff_not, Bool.and_eq_true, Bool.or_eq_true, Bool.and_eq_false_imp, Bool.or_eq_false_iff, Bool.not_eq_true', Bool.not_eq_false', Bool.not_eq_true, Bool.not_eq_false, beq_iff_eq, beq_eq_false_iff_ne, bne_iff_ne, ne_eq, Decidable.not_not, Int.not_lt, Int.not_le] at h1
    refine tc_skip ?_
    refine tq_then ?_
    refine tc_seq ?_
    refine tc_rb [0,0,6,0,0] [(2, Sl a_more more.length c_more), (3, Pt b1 0), (4, Pt b2 0), (7, Pt b3 0), (8, I ((clerkAsk c a).2.1)), (44, Bo (decide (IntKind.i64.wrap (((clerkAsk c a).2.1) - c.now) > 60)))] ?_
    have e1 : IntKind.i64.wrap (((clerkAsk c a).2.1) - c.now) = ((clerkAsk c a).2.1) - c.now := IntWalk.i64_in _ (by first | omega | (have q_ := due_start (c := c) (a := a) more (by assumption); obtain ⟨q1_, q2_, q3_, q4_⟩ := q_; have q5_ := (clerkAsk_ok (c := c) (a := a) (by assumption)).1.now; omega) | (have q7_ := due_len hI; omega) | (have q_ := due_start (c := c) (a := a) more (by assumption); obtain ⟨q1_, q2_, q3_, q4_⟩ := q_; have q5_ := (clerkAsk_ok (c := c) (a := a) (by assumption)).1.now; have q7_ := due_len hI; omega))
    refine tc_eq (fr' := [(2, Sl a_more more.length c_more), (3, Pt b1 0), (4, Pt b2 0), (7, Pt b3 0), (8, I ((clerkAsk c a).2.1)), (44, Bo (decide (((clerkAsk c a).2.1) - c.now > 60)))]) (L' := [[Sg b3 0 [I (((clerkAsk c a).1).queue.most), Sl a4 ((((clerkAsk c a).1).queue.wait).length) c4, I (((clerkAsk c a).1).batch), I (((clerkAsk c a).1).every), I (((clerkAsk c a).1).now), Sl a5 ((((clerkAsk c a).1).heads).length) c5, Sl a6 ((((clerkAsk c a).1).books).length) c6]], [Sg b2 0 [Sr a.name, Sr a.value, U a.n, U a.tag]], [Sg b1 0 [I c.queue.most, Sl a1 c.queue.wait.length c1, I c.batch, I c.every, I c.now, Sl a2 c.heads.length c2, Sl a3 c.books.length c3]]]) (by simp only [e1]) (by rfl) ?_
    clear e1
    refine tc_cond (decide (((clerkAsk c a).2.1) - c.now > 60)) (fun h2 => ?_) (fun h2 => ?_)
    ·
      try simp only [decide_eq_true_eq, decide_eq_false_iff_not, Bool.and_eq_true, Bool.or_eq_true, Bool.and_eq_false_imp, Bool.or_eq_false_iff, Bool.not_eq_true', Bool.not_eq_false', Bool.not_eq_true, Bool.not_eq_false, beq_iff_eq, beq_eq_false_iff_ne, bne_iff_ne, ne_eq, Decidable.not_not, Int.not_lt, Int.not_le] at h2
      refine tc_rb [0,0,6,0,0] [(6, Bo (decide ((clerkAsk c a).2.1 > c.now)))] ?_
      refine tc_ret ?_
      refine tq_then_ret ?_
      refine tq_ret [0] [Bo (decide ((clerkAsk c a).2.1 > c.now))] (bp_ret hl1 ?_)
      have hf_ : (decide ((clerkAsk c a).2.1 > c.now)) = true := by
        first | rfl | (obtain ⟨q1_, q2_⟩ := clerkAsk_err (by assumption); rw [q1_, q2_]; rfl) | (have q_ := clerkAsk_err (by assumption); simp_all [clerkZ]; done) | (have q_ := due_start (c := c) (a := a) more (by assumption); obtain ⟨q1_, q2_, q3_, q4_⟩ := q_; have q5_ := (clerkAsk_ok (c := c) (a := a) (by assumption)).1.now; simp; omega) | (exact absurd (due_tk hI) (by assumption)) | (exact absurd (due_tk2 hI (by assumption) (by assumption)) (by assumption)) | exact due_fin hI (by omega) hK (by omega)
      exact congrArg Bo hf_
    ·
      try simp only [decide_eq_true_eq, decide_eq_false_iff_not, Bool.and_eq_true, Bool.or_eq_true, Bool.and_eq_false_imp, Bool.or_eq_false_iff, Bool.not_eq_true', Bool.not_eq_false', Bool.not_eq_true, Bool.not_eq_false, beq_iff_eq, beq_eq_false_iff_ne, bne_iff_ne, ne_eq, Decidable.not_not, Int.not_lt, Int.not_le] at h2
      refine tc_skip ?_
      refine tq_then ?_
      refine tc_seq ?_
      refine tc_rb [0] [(2, Sl a_more more.length c_more), (3, Pt b1 0), (4, Pt b2 0), (7, Pt b3 0), (8, I ((clerkAsk c a).2.1)), (10, I 0)] ?_
      refine tc_block ?_
      have hlm_h_more : more.length ≤ 9223372036854775807 := Nat.le_trans (h_more).le (h_more).max
      refine tc_loop (σ := Nat × ClerkD × Option Addr × Nat × Option Addr × Nat × Option Addr × Nat × Mem) (fun q_ => (Mem.le G1 q_.2.2.2.2.2.2.2.2) ∧ (q_.2.1.now = c.now + (q_.1 : Int)) ∧ (-9223372036854775808 ≤ q_.2.1.queue.most ∧ q_.2.1.queue.most < 9223372036854775808) ∧ (RS EAsk q_.2.2.2.2.2.2.2.2 q_.2.2.1 q_.2.2.2.1 q_.2.1.queue.wait) ∧ (-9223372036854775808 ≤ q_.2.1.batch ∧ q_.2.1.batch < 9223372036854775808) ∧ (-9223372036854775808 ≤ q_.2.1.every ∧ q_.2.1.every < 9223372036854775808) ∧ (-9223372036854775808 ≤ q_.2.1.now ∧ q_.2.1.now < 9223372036854775808) ∧ (RS EHead q_.2.2.2.2.2.2.2.2 q_.2.2.2.2.1 q_.2.2.2.2.2.1 q_.2.1.heads) ∧ (RS ESlEnt q_.2.2.2.2.2.2.2.2 q_.2.2.2.2.2.2.1 q_.2.2.2.2.2.2.2.1 q_.2.1.books) ∧ (DueInv c a (clerkAsk c a).2.1 more q_.2.1)) (fun q_ => [(2, Sl a_more more.length c_more), (3, Pt b1 0), (4, Pt b2 0), (7, Pt b3 0), (8, I ((clerkAsk c a).2.1)), (10, I ((q_.1 : Int)))]) (fun q_ => q_.2.2.2.2.2.2.2.2) (fun q_ => [[Sg b3 0 [I q_.2.1.queue.most, Sl q_.2.2.1 q_.2.1.queue.wait.length q_.2.2.2.1, I q_.2.1.batch, I q_.2.1.every, I q_.2.1.now, Sl q_.2.2.2.2.1 q_.2.1.heads.length q_.2.2.2.2.2.1, Sl q_.2.2.2.2.2.2.1 q_.2.1.books.length q_.2.2.2.2.2.2.2.1]], [Sg b2 0 [Sr a.name, Sr a.value, U a.n, U a.tag]], [Sg b1 0 [I c.queue.most, Sl a1 c.queue.wait.length c1, I c.batch, I c.every, I c.now, Sl a2 c.heads.length c2, Sl a3 c.books.length c3]]]) (fun q_ => ((clerkAsk c a).2.1 - q_.2.1.now).toNat) ((0, ((clerkAsk c a).1), a4, c4, a5, c5, a6, c6, G1)) ⟨(Mem.le_refl _), (by (try dsimp only); have q_ := due_start (c := c) (a := a) more (by assumption); obtain ⟨q1_, q2_, q3_, q4_⟩ := q_; have q5_ := (clerkAsk_ok (c := c) (a := a) (by assumption)).1.now; omega), (by (try dsimp only); first | assumption | omega | (simp; done) | (simp; omega)), hs4, (by (try dsimp only); first | assumption | omega | (simp; done) | (simp; omega)), (by (try dsimp only); first | assumption | omega | (simp; done) | (simp; omega)), (by (try dsimp only); first | assumption | omega | (simp; done) | (simp; omega)), hs5, hs6, (due_start more (by assumption)).1⟩ (fun q_ hs => ?_)
      obtain ⟨i, kx, akx0, ckx0, akx1, ckx1, akx2, ckx2, g⟩ := q_
      obtain ⟨hle, hi, hkx0, hkx1, hkx2, hkx3, hkx4, hkx5, hkx6, hI⟩ := hs
      dsimp only at hle hi hkx0 hkx1 hkx2 hkx3 hkx4 hkx5 hkx6 hI
      refine tc_eq (fr' := [(2, Sl a_more more.length c_more), (3, Pt b1 0), (4, Pt b2 0), (7, Pt b3 0), (8, I ((clerkAsk c a).2.1)), (10, I ((i : Int)))]) (L' := [[Sg b3 0 [I kx.queue.most, Sl akx0 kx.queue.wait.length ckx0, I kx.batch, I kx.every, I kx.now, Sl akx1 kx.heads.length ckx1, Sl akx2 kx.books.length ckx2]], [Sg b2 0 [Sr a.name, Sr a.value, U a.n, U a.tag]], [Sg b1 0 [I c.queue.most, Sl a1 c.queue.wait.length c1, I c.batch, I c.every, I c.now, Sl a2 c.heads.length c2, Sl a3 c.books.length c3]]]) rfl rfl ?_
      refine tc_seq ?_
      refine tc_rb [0,2,0,0] [(2, Sl a_more more.length c_more), (3, Pt b1 0), (4, Pt b2 0), (7, Pt b3 0), (8, I ((clerkAsk c a).2.1)), (10, I ((i : Int))), (52, Bo (decide (kx.now < (clerkAsk c a).2.1)))] ?_
      refine tc_cond (decide (kx.now < (clerkAsk c a).2.1)) (fun h3 => ?_) (fun h3 => ?_)
      ·
        try simp only [decide_eq_true_eq, decide_eq_false_iff_not, Bool.and_eq_true, Bool.or_eq_true, Bool.and_eq_false_imp, Bool.or_eq_false_iff, Bool.not_eq_true', Bool.not_eq_false', Bool.not_eq_true, Bool.not_eq_false, beq_iff_eq, beq_eq_false_iff_ne, bne_iff_ne, ne_eq, Decidable.not_not, Int.not_lt, Int.not_le] at h3
        refine tc_skip ?_
        refine tq_then ?_
        refine tc_seq ?_
        refine tc_block ?_
        refine tc_seq ?_
        refine tc_rb [0,0,0,0] [(2, Sl a_more more.length c_more), (3, Pt b1 0), (4, Pt b2 0), (7, Pt b3 0), (8, I ((clerkAsk c a).2.1)), (10, I ((i : Int))), (58, Bo (decide ((i : Int) < ((more.length : Nat) : Int))))] ?_
        refine tc_cond (decide ((i : Int) < ((more.length : Nat) : Int))) (fun h4 => ?_) (fun h4 => ?_)
        ·
          try simp only [decide_eq_true_eq, decide_eq_false_iff_not, Bool.and_eq_true, Bool.or_eq_true, Bool.and_eq_false_imp, Bool.or_eq_false_iff, Bool.not_eq_true', Bool.not_eq_false', Bool.not_eq_true, Bool.not_eq_false, beq_iff_eq, beq_eq_false_iff_ne, bne_iff_ne, ne_eq, Decidable.not_not, Int.not_lt, Int.not_le] at h4
          refine tc_seq ?_
          obtain ⟨b4, o1, rfl⟩ := RS.addr (h_more.mono (Mem.le_trans hl1 hle)) (k := i) (by first | omega | (have q_ := due_start (c := c) (a := a) more (by assumption); obtain ⟨q1_, q2_, q3_, q4_⟩ := q_; have q5_ := (clerkAsk_ok (c := c) (a := a) (by assumption)).1.now; omega) | (have q7_ := due_len hI; omega) | (have q_ := due_start (c := c) (a := a) more (by assumption); obtain ⟨q1_, q2_, q3_, q4_⟩ := q_; have q5_ := (clerkAsk_ok (c := c) (a := a) (by assumption)).1.now; have q7_ := due_len hI; omega))
          obtain ⟨x1, hx1⟩ := getX (l := more) (k := i) (by first | omega | (have q_ := due_start (c := c) (a := a) more (by assumption); obtain ⟨q1_, q2_, q3_, q4_⟩ := q_; have q5_ := (clerkAsk_ok (c := c) (a := a) (by assumption)).1.now; omega) | (have q7_ := due_len hI; omega) | (have q_ := due_start (c := c) (a := a) more (by assumption); obtain ⟨q1_, q2_, q3_, q4_⟩ := q_; have q5_ := (clerkAsk_ok (c := c) (a := a) (by assumption)).1.now; have q7_ := due_len hI; omega))
          obtain ⟨_, ⟨rfl, w14, w15, w16, w17⟩, hc1⟩ := RS.get (h_more.mono (Mem.le_trans hl1 hle)) hx1
          refine tc_draw [5, 10, 11] ?_
          refine dr_V [(0, .agg #[I kx.queue.most, Sl akx0 kx.queue.wait.length ckx0, I kx.batch, I kx.every, I kx.now, Sl akx1 kx.heads.length ckx1, Sl akx2 kx.books.length ckx2]), (1, Sl (At b4 o1) more.length c_more), (2, I ((i : Int))), (3, Pt b4 (o1 + i * 4)), (4, .agg #[Sr x1.name, Sr x1.value, U x1.n, U x1.tag])] ?_
          refine dr_mid [] [(0,2), (1,0), (2,0)] [3, 4] [5, 10] (List.forall_mem_cons.2 ⟨?_, (List.forall_mem_cons.2 ⟨?_, List.forall_mem_nil _⟩)⟩) (List.forall_mem_cons.2 ⟨?_, (List.forall_mem_cons.2 ⟨?_, List.forall_mem_nil _⟩)⟩)
          · refine stab_of 3 63 (Pt b4 (o1 + i * 4)) [(61, Sl (At b4 o1) more.length c_more), (62, I ((i : Int)))] (fun X => ?_)
            exact runL_idx (b := b4) (off := o1) (len := more.length) (cap := c_more) (ik := .i64) 63 54 4 i (by first | omega | (have q_ := due_start (c := c) (a := a) more (by assumption); obtain ⟨q1_, q2_, q3_, q4_⟩ := q_; have q5_ := (clerkAsk_ok (c := c) (a := a) (by assumption)).1.now; omega) | (have q7_ := due_len hI; omega) | (have q_ := due_start (c := c) (a := a) more (by assumption); obtain ⟨q1_, q2_, q3_, q4_⟩ := q_; have q5_ := (clerkAsk_ok (c := c) (a := a) (by assumption)).1.now; have q7_ := due_len hI; omega)) stab_end
          · refine stab_of 4 64 (.agg #[Sr x1.name, Sr x1.value, U x1.n, U x1.tag]) [(63, Pt b4 (o1 + i * 4))] (fun X => ?_)
            exact runL_ldG 64 54 (cs := [Sr x1.name, Sr x1.value, U x1.n, U x1.tag]) 0 (.agg #[Sr x1.name, Sr x1.value, U x1.n, U x1.tag]) hc1 stab_end
          ·
            refine act_of 5 [(60, .agg #[I kx.queue.most, Sl akx0 kx.queue.wait.length ckx0, I kx.batch, I kx.every, I kx.now, Sl akx1 kx.heads.length ckx1, Sl akx2 kx.books.length ckx2]), (64, .agg #[Sr x1.name, Sr x1.value, U x1.n, U x1.tag])] (fun X => ?_)
            refine runL_callR 65 (clerkAsk_con g [I kx.queue.most, Sl akx0 kx.queue.wait.length ckx0, I kx.batch, I kx.every, I kx.now, Sl akx1 kx.heads.length ckx1, Sl akx2 kx.books.length ckx2] kx (⟨akx0, ckx0, akx1, ckx1, akx2, ckx2, rfl, hkx0, hkx1, hkx2, hkx3, hkx4, hkx5, hkx6⟩) [Sr x1.name, Sr x1.value, U x1.n, U x1.tag] x1 (⟨rfl, w14, w15, w16, w17⟩)) (fun v G2 L1 hl2 hp => ?_)
            obtain ⟨a7, c7, a8, c8, a9, c9, rfl, w18, hs7, w19, w20, w21, hs8, hs9, w22, rfl⟩ := hp
            refine act_end (V' := [(0, .agg #[I kx.queue.most, Sl akx0 kx.queue.wait.length ckx0, I kx.batch, I kx.every, I kx.now, Sl akx1 kx.heads.length ckx1, Sl akx2 kx.books.length ckx2]), (1, Sl (At b4 o1) more.length c_more), (2, I ((i : Int))), (3, Pt b4 (o1 + i * 4)), (4, .agg #[Sr x1.name, Sr x1.value, U x1.n, U x1.tag]), (5, .tuple #[.agg #[I (((clerkAsk kx x1).1).queue.most), Sl a7 ((((clerkAsk kx x1).1).queue.wait).length) c7, I (((clerkAsk kx x1).1).batch), I (((clerkAsk kx x1).1).every), I (((clerkAsk kx x1).1).now), Sl a8 ((((clerkAsk kx x1).1).heads).length) c8, Sl a9 ((((clerkAsk kx x1).1).books).length) c9], I ((clerkAsk kx x1).2.1), I ((clerkAsk kx x1).2.2)]), (6, .tuple #[.agg #[I (((clerkAsk kx x1).1).queue.most), Sl a7 ((((clerkAsk kx x1).1).queue.wait).length) c7, I (((clerkAsk kx x1).1).batch), I (((clerkAsk kx x1).1).every), I (((clerkAsk kx x1).1).now), Sl a8 ((((clerkAsk kx x1).1).heads).length) c8, Sl a9 ((((clerkAsk kx x1).1).books).length) c9], I ((clerkAsk kx x1).2.1), I ((clerkAsk kx x1).2.2)]), (7, .agg #[I (((clerkAsk kx x1).1).queue.most), Sl a7 ((((clerkAsk kx x1).1).queue.wait).length) c7, I (((clerkAsk kx x1).1).batch), I (((clerkAsk kx x1).1).every), I (((clerkAsk kx x1).1).now), Sl a8 ((((clerkAsk kx x1).1).heads).length) c8, Sl a9 ((((clerkAsk kx x1).1).books).length) c9]), (8, I ((clerkAsk kx x1).2.1)), (9, I ((clerkAsk kx x1).2.2))]) ?_
            refine dr_mid [0, 1, 2, 3, 4] [(6,0), (7,0), (8,0), (9,0)] [] [10] (List.forall_mem_nil _) (List.forall_mem_cons.2 ⟨?_, List.forall_mem_nil _⟩)
            refine act_of 10 [] (fun X => ?_)
            refine runL_box 11 #[I 0, Sl none 0 0, I 0, I 0, I 0, Sl none 0 0, Sl none 0 0] 28 (fun b5 => ?_)
            refine act_end (V' := [(0, .agg #[I kx.queue.most, Sl akx0 kx.queue.wait.length ckx0, I kx.batch, I kx.every, I kx.now, Sl akx1 kx.heads.length ckx1, Sl akx2 kx.books.length ckx2]), (1, Sl (At b4 o1) more.length c_more), (2, I ((i : Int))), (3, Pt b4 (o1 + i * 4)), (4, .agg #[Sr x1.name, Sr x1.value, U x1.n, U x1.tag]), (5, .tuple #[.agg #[I (((clerkAsk kx x1).1).queue.most), Sl a7 ((((clerkAsk kx x1).1).queue.wait).length) c7, I (((clerkAsk kx x1).1).batch), I (((clerkAsk kx x1).1).every), I (((clerkAsk kx x1).1).now), Sl a8 ((((clerkAsk kx x1).1).heads).length) c8, Sl a9 ((((clerkAsk kx x1).1).books).length) c9], I ((clerkAsk kx x1).2.1), I ((clerkAsk kx x1).2.2)]), (6, .tuple #[.agg #[I (((clerkAsk kx x1).1).queue.most), Sl a7 ((((clerkAsk kx x1).1).queue.wait).length) c7, I (((clerkAsk kx x1).1).batch), I (((clerkAsk kx x1).1).every), I (((clerkAsk kx x1).1).now), Sl a8 ((((clerkAsk kx x1).1).heads).length) c8, Sl a9 ((((clerkAsk kx x1).1).books).length) c9], I ((clerkAsk kx x1).2.1), I ((clerkAsk kx x1).2.2)]), (7, .agg #[I (((clerkAsk kx x1).1).queue.most), Sl a7 ((((clerkAsk kx x1).1).queue.wait).length) c7, I (((clerkAsk kx x1).1).batch), I (((clerkAsk kx x1).1).every), I (((clerkAsk kx x1).1).now), Sl a8 ((((clerkAsk kx x1).1).heads).length) c8, Sl a9 ((((clerkAsk kx x1).1).books).length) c9]), (8, I ((clerkAsk kx x1).2.1)), (9, I ((clerkAsk kx x1).2.2)), (10, Pt b5 0)]) ?_
            refine dr_mid [0, 1, 2, 3, 4] [(6,0), (7,0), (8,0), (9,0)] [] [11] (List.forall_mem_nil _) (List.forall_mem_cons.2 ⟨?_, List.forall_mem_nil _⟩)
            refine act_of 11 [(11, Pt b5 0), (66, .agg #[I (((clerkAsk kx x1).1).queue.most), Sl a7 ((((clerkAsk kx x1).1).queue.wait).length) c7, I (((clerkAsk kx x1).1).batch), I (((clerkAsk kx x1).1).every), I (((clerkAsk kx x1).1).now), Sl a8 ((((clerkAsk kx x1).1).heads).length) c8, Sl a9 ((((clerkAsk kx x1).1).books).length) c9])] (fun X => ?_)
            refine runL_st 0 [[Sg b5 0 [I (((clerkAsk kx x1).1).queue.most), Sl a7 ((((clerkAsk kx x1).1).queue.wait).length) c7, I (((clerkAsk kx x1).1).batch), I (((clerkAsk kx x1).1).every), I (((clerkAsk kx x1).1).now), Sl a8 ((((clerkAsk kx x1).1).heads).length) c8, Sl a9 ((((clerkAsk kx x1).1).books).length) c9]], [Sg b3 0 [I kx.queue.most, Sl akx0 kx.queue.wait.length ckx0, I kx.batch, I kx.every, I kx.now, Sl akx1 kx.heads.length ckx1, Sl akx2 kx.books.length ckx2]], [Sg b2 0 [Sr a.name, Sr a.value, U a.n, U a.tag]], [Sg b1 0 [I c.queue.most, Sl a1 c.queue.wait.length c1, I c.batch, I c.every, I c.now, Sl a2 c.heads.length c2, Sl a3 c.books.length c3]]] ?_
            refine act_end0 (V' := [(0, .agg #[I kx.queue.most, Sl akx0 kx.queue.wait.length ckx0, I kx.batch, I kx.every, I kx.now, Sl akx1 kx.heads.length ckx1, Sl akx2 kx.books.length ckx2]), (1, Sl (At b4 o1) more.length c_more), (2, I ((i : Int))), (3, Pt b4 (o1 + i * 4)), (4, .agg #[Sr x1.name, Sr x1.value, U x1.n, U x1.tag]), (5, .tuple #[.agg #[I (((clerkAsk kx x1).1).queue.most), Sl a7 ((((clerkAsk kx x1).1).queue.wait).length) c7, I (((clerkAsk kx x1).1).batch), I (((clerkAsk kx x1).1).every), I (((clerkAsk kx x1).1).now), Sl a8 ((((clerkAsk kx x1).1).heads).length) c8, Sl a9 ((((clerkAsk kx x1).1).books).length) c9], I ((clerkAsk kx x1).2.1), I ((clerkAsk kx x1).2.2)]), (6, .tuple #[.agg #[I (((clerkAsk kx x1).1).queue.most), Sl a7 ((((clerkAsk kx x1).1).queue.wait).length) c7, I (((clerkAsk kx x1).1).batch), I (((clerkAsk kx x1).1).every), I (((clerkAsk kx x1).1).now), Sl a8 ((((clerkAsk kx x1).1).heads).length) c8, Sl a9 ((((clerkAsk kx x1).1).books).length) c9], I ((clerkAsk kx x1).2.1), I ((clerkAsk kx x1).2.2)]), (7, .agg #[I (((clerkAsk kx x1).1).queue.most), Sl a7 ((((clerkAsk kx x1).1).queue.wait).length) c7, I (((clerkAsk kx x1).1).batch), I (((clerkAsk kx x1).1).every), I (((clerkAsk kx x1).1).now), Sl a8 ((((clerkAsk kx x1).1).heads).length) c8, Sl a9 ((((clerkAsk kx x1).1).books).length) c9]), (8, I ((clerkAsk kx x1).2.1)), (9, I ((clerkAsk kx x1).2.2)), (10, Pt b5 0), (12, I ((clerkAsk kx x1).2.1)), (13, I ((clerkAsk kx x1).2.2))]) ?_
            refine dr_end [0, 1, 2, 3, 4, 6, 7] [(8,0), (9,0), (12,0), (13,0)] [] [(2, Sl (At b4 o1) more.length c_more), (3, Pt b1 0), (4, Pt b2 0), (7, Pt b3 0), (8, I ((clerkAsk c a).2.1)), (10, I ((i : Int))), (11, Pt b5 0), (13, I ((clerkAsk kx x1).2.2))] (List.forall_mem_nil _) ?_
            refine tq_then ?_
            refine tc_rb [0,0] [(2, Sl (At b4 o1) more.length c_more), (3, Pt b1 0), (4, Pt b2 0), (7, Pt b3 0), (8, I ((clerkAsk c a).2.1)), (10, I ((i : Int))), (11, Pt b5 0), (70, Bo (decide ((clerkAsk kx x1).2.2 = 0)))] ?_
            refine tc_cond (decide ((clerkAsk kx x1).2.2 = 0)) (fun h5 => ?_) (fun h5 => ?_)
            ·
              try simp only [decide_eq_true_eq, decide_eq_false_iff_not, Bool.and_eq_true, Bool.or_eq_true, Bool.and_eq_false_imp, Bool.or_eq_false_iff, Bool.not_eq_true', Bool.not_eq_false', Bool.not_eq_true, Bool.not_eq_false, beq_iff_eq, beq_eq_false_iff_ne, bne_iff_ne, ne_eq, Decidable.not_not, Int.not_lt, Int.not_le] at h5
              refine tc_region ?_
              refine runL_bs [2,5] [(2, Sl (At b4 o1) more.length c_more), (3, Pt b1 0), (4, Pt b2 0), (7, Pt b3 0), (8, I ((clerkAsk c a).2.1)), (10, I ((i : Int)))] [[Sg b5 0 [I (((clerkAsk kx x1).1).queue.most), Sl a7 ((((clerkAsk kx x1).1).queue.wait).length) c7, I (((clerkAsk kx x1).1).batch), I (((clerkAsk kx x1).1).every), I (((clerkAsk kx x1).1).now), Sl a8 ((((clerkAsk kx x1).1).heads).length) c8, Sl a9 ((((clerkAsk kx x1).1).books).length) c9]], [Sg b3 0 [I (((clerkAsk kx x1).1).queue.most), Sl a7 ((((clerkAsk kx x1).1).queue.wait).length) c7, I (((clerkAsk kx x1).1).batch), I (((clerkAsk kx x1).1).every), I (((clerkAsk kx x1).1).now), Sl a8 ((((clerkAsk kx x1).1).heads).length) c8, Sl a9 ((((clerkAsk kx x1).1).books).length) c9]], [Sg b2 0 [Sr a.name, Sr a.value, U a.n, U a.tag]], [Sg b1 0 [I c.queue.most, Sl a1 c.queue.wait.length c1, I c.batch, I c.every, I c.now, Sl a2 c.heads.length c2, Sl a3 c.books.length c3]]] ?_
              refine runL_nil ?_
              refine tq_then ?_
              refine tc_seq ?_
              refine tc_region ?_
              refine runL_b [4] [(2, Sl (At b4 o1) more.length c_more), (3, Pt b1 0), (4, Pt b2 0), (7, Pt b3 0), (8, I ((clerkAsk c a).2.1)), (10, I ((i : Int))), (73, .agg #[I (((clerkAsk kx x1).1).queue.most), Sl a7 ((((clerkAsk kx x1).1).queue.wait).length) c7, I (((clerkAsk kx x1).1).batch), I (((clerkAsk kx x1).1).every), I (((clerkAsk kx x1).1).now), Sl a8 ((((clerkAsk kx x1).1).heads).length) c8, Sl a9 ((((clerkAsk kx x1).1).books).length) c9])] ?_
              refine runL_callR 74 (clerkTick_con G2 [I (((clerkAsk kx x1).1).queue.most), Sl a7 ((((clerkAsk kx x1).1).queue.wait).length) c7, I (((clerkAsk kx x1).1).batch), I (((clerkAsk kx x1).1).every), I (((clerkAsk kx x1).1).now), Sl a8 ((((clerkAsk kx x1).1).heads).length) c8, Sl a9 ((((clerkAsk kx x1).1).books).length) c9] (((clerkAsk kx x1).1)) (⟨a7, c7, a8, c8, a9, c9, rfl, w18, hs7, w19, w20, w21, hs8, hs9⟩)) (fun v G3 L1 hl3 hp => ?_)
              obtain ⟨a10, c10, a11, c11, a12, c12, rfl, w23, hs10, w24, w25, w26, hs11, hs12, rfl⟩ := hp
              refine runL_b [0,0,0,0] [(2, Sl (At b4 o1) more.length c_more), (3, Pt b1 0), (4, Pt b2 0), (7, Pt b3 0), (8, I ((clerkAsk c a).2.1)), (10, I ((i : Int))), (75, .agg #[I (((clerkTick (((clerkAsk kx x1).1))).1).queue.most), Sl a10 ((((clerkTick (((clerkAsk kx x1).1))).1).queue.wait).length) c10, I (((clerkTick (((clerkAsk kx x1).1))).1).batch), I (((clerkTick (((clerkAsk kx x1).1))).1).every), I (((clerkTick (((clerkAsk kx x1).1))).1).now), Sl a11 ((((clerkTick (((clerkAsk kx x1).1))).1).heads).length) c11, Sl a12 ((((clerkTick (((clerkAsk kx x1).1))).1).books).length) c12]), (76, Bo ((clerkTick (((clerkAsk kx x1).1))).2.1)), (77, I ((clerkTick (((clerkAsk kx x1).1))).2.2))] ?_
              refine runL_box 14 #[I 0, Sl none 0 0, I 0, I 0, I 0, Sl none 0 0, Sl none 0 0] 28 (fun b6 => ?_)
              refine runL_bs [3,0,0] [(2, Sl (At b4 o1) more.length c_more), (3, Pt b1 0), (4, Pt b2 0), (7, Pt b3 0), (8, I ((clerkAsk c a).2.1)), (10, I ((i : Int))), (14, Pt b6 0), (16, I ((clerkTick (((clerkAsk kx x1).1))).2.2))] [[Sg b6 0 [I (((clerkTick (((clerkAsk kx x1).1))).1).queue.most), Sl a10 ((((clerkTick (((clerkAsk kx x1).1))).1).queue.wait).length) c10, I (((clerkTick (((clerkAsk kx x1).1))).1).batch), I (((clerkTick (((clerkAsk kx x1).1))).1).every), I (((clerkTick (((clerkAsk kx x1).1))).1).now), Sl a11 ((((clerkTick (((clerkAsk kx x1).1))).1).heads).length) c11, Sl a12 ((((clerkTick (((clerkAsk kx x1).1))).1).books).length) c12]], [Sg b5 0 [I (((clerkAsk kx x1).1).queue.most), Sl a7 ((((clerkAsk kx x1).1).queue.wait).length) c7, I (((clerkAsk kx x1).1).batch), I (((clerkAsk kx x1).1).every), I (((clerkAsk kx x1).1).now), Sl a8 ((((clerkAsk kx x1).1).heads).length) c8, Sl a9 ((((clerkAsk kx x1).1).books).length) c9]], [Sg b3 0 [I (((clerkAsk kx x1).1).queue.most), Sl a7 ((((clerkAsk kx x1).1).queue.wait).length) c7, I (((clerkAsk kx x1).1).batch), I (((clerkAsk kx x1).1).every), I (((clerkAsk kx x1).1).now), Sl a8 ((((clerkAsk kx x1).1).heads).length) c8, Sl a9 ((((clerkAsk kx x1).1).books).length) c9]], [Sg b2 0 [Sr a.name, Sr a.value, U a.n, U a.tag]], [Sg b1 0 [I c.queue.most, Sl a1 c.queue.wait.length c1, I c.batch, I c.every, I c.now, Sl a2 c.heads.length c2, Sl a3 c.books.length c3]]] ?_
              refine runL_nil ?_
              refine tq_then ?_
              refine tc_seq ?_
              refine tc_rb [0,0] [(2, Sl (At b4 o1) more.length c_more), (3, Pt b1 0), (4, Pt b2 0), (7, Pt b3 0), (8, I ((clerkAsk c a).2.1)), (10, I ((i : Int))), (14, Pt b6 0), (79, Bo (!decide ((clerkTick (((clerkAsk kx x1).1))).2.2 = 0)))] ?_
              refine tc_cond (!decide ((clerkTick (((clerkAsk kx x1).1))).2.2 = 0)) (fun h6 => ?_) (fun h6 => ?_)
              ·
                try simp only [decide_eq_true_eq, decide_eq_false_iff_not, Bool.and_eq_true, Bool.or_eq_true, Bool.and_eq_false_imp, Bool.or_eq_false_iff, Bool.not_eq_true', Bool.not_eq_false', Bool.not_eq_true, Bool.not_eq_false, beq_iff_eq, beq_eq_false_iff_ne, bne_iff_ne, ne_eq, Decidable.not_not, Int.not_lt, Int.not_le] at h6
                refine tc_rb [0] [(6, Bo false)] ?_
                refine tc_ret ?_
                refine tq_then_ret ?_
                refine tq_block_ret ?_
                refine tq_then_ret ?_
                refine tq_rnd_ret ?_
                refine tq_block_ret ?_
                refine tq_then_ret ?_
                refine tq_ret [0] [Bo false] (bp_ret (Mem.le_trans (Mem.le_trans (Mem.le_trans hl1 hle) hl2) hl3) ?_)
                exfalso
                first | rfl | (obtain ⟨q1_, q2_⟩ := clerkAsk_err (by assumption); rw [q1_, q2_]; rfl) | (have q_ := clerkAsk_err (by assumption); simp_all [clerkZ]; done) | (have q_ := due_start (c := c) (a := a) more (by assumption); obtain ⟨q1_, q2_, q3_, q4_⟩ := q_; have q5_ := (clerkAsk_ok (c := c) (a := a) (by assumption)).1.now; simp; omega) | (exact absurd (due_tk hI) (by assumption)) | (exact absurd (due_tk2 hI (by assumption) (by assumption)) (by assumption)) | exact due_fin hI (by omega) hK (by omega)
              ·
                try simp only [decide_eq_true_eq, decide_eq_false_iff_not, Bool.and_eq_true, Bool.or_eq_true, Bool.and_eq_false_imp, Bool.or_eq_false_iff, Bool.not_eq_true', Bool.not_eq_false', Bool.not_eq_true, Bool.not_eq_false, beq_iff_eq, beq_eq_false_iff_ne, bne_iff_ne, ne_eq, Decidable.not_not, Int.not_lt, Int.not_le] at h6
                refine tc_skip ?_
                refine tq_then ?_
                refine tc_seq ?_
                refine tc_rb [0,2,0,6,0] [(2, Sl (At b4 o1) more.length c_more), (3, Pt b1 0), (4, Pt b2 0), (7, Pt b3 0), (8, I ((clerkAsk c a).2.1)), (10, I ((i : Int))), (14, Pt b6 0), (84, Bo (decide (((clerkTick (((clerkAsk kx x1).1))).1).now = ((clerkAsk kx x1).1).now)))] ?_
                refine tc_cond (decide (((clerkTick (((clerkAsk kx x1).1))).1).now = ((clerkAsk kx x1).1).now)) (fun h7 => ?_) (fun h7 => ?_)
                ·
                  try simp only [decide_eq_true_eq, decide_eq_false_iff_not, Bool.and_eq_true, Bool.or_eq_true, Bool.and_eq_false_imp, Bool.or_eq_false_iff, Bool.not_eq_true', Bool.not_eq_false', Bool.not_eq_true, Bool.not_eq_false, beq_iff_eq, beq_eq_false_iff_ne, bne_iff_ne, ne_eq, Decidable.not_not, Int.not_lt, Int.not_le] at h7
                  refine tc_rb [0] [(6, Bo true)] ?_
                  refine tc_ret ?_
                  refine tq_then_ret ?_
                  refine tq_block_ret ?_
                  refine tq_then_ret ?_
                  refine tq_rnd_ret ?_
                  refine tq_block_ret ?_
                  refine tq_then_ret ?_
                  refine tq_ret [0] [Bo true] (bp_ret (Mem.le_trans (Mem.le_trans (Mem.le_trans hl1 hle) hl2) hl3) ?_)
                  rfl
                ·
                  try simp only [decide_eq_true_eq, decide_eq_false_iff_not, Bool.and_eq_true, Bool.or_eq_true, Bool.and_eq_false_imp, Bool.or_eq_false_iff, Bool.not_eq_true', Bool.not_eq_false', Bool.not_eq_true, Bool.not_eq_false, beq_iff_eq, beq_eq_false_iff_ne, bne_iff_ne, ne_eq, Decidable.not_not, Int.not_lt, Int.not_le] at h7
                  refine tc_skip ?_
                  refine tq_then ?_
                  refine tc_region ?_
                  refine runL_bs [2,7] [(2, Sl (At b4 o1) more.length c_more), (3, Pt b1 0), (4, Pt b2 0), (7, Pt b3 0), (8, I ((clerkAsk c a).2.1)), (10, I ((i : Int)))] [[Sg b6 0 [I (((clerkTick (((clerkAsk kx x1).1))).1).queue.most), Sl a10 ((((clerkTick (((clerkAsk kx x1).1))).1).queue.wait).length) c10, I (((clerkTick (((clerkAsk kx x1).1))).1).batch), I (((clerkTick (((clerkAsk kx x1).1))).1).every), I (((clerkTick (((clerkAsk kx x1).1))).1).now), Sl a11 ((((clerkTick (((clerkAsk kx x1).1))).1).heads).length) c11, Sl a12 ((((clerkTick (((clerkAsk kx x1).1))).1).books).length) c12]], [Sg b5 0 [I (((clerkAsk kx x1).1).queue.most), Sl a7 ((((clerkAsk kx x1).1).queue.wait).length) c7, I (((clerkAsk kx x1).1).batch), I (((clerkAsk kx x1).1).every), I (((clerkAsk kx x1).1).now), Sl a8 ((((clerkAsk kx x1).1).heads).length) c8, Sl a9 ((((clerkAsk kx x1).1).books).length) c9]], [Sg b3 0 [I (((clerkTick (((clerkAsk kx x1).1))).1).queue.most), Sl a10 ((((clerkTick (((clerkAsk kx x1).1))).1).queue.wait).length) c10, I (((clerkTick (((clerkAsk kx x1).1))).1).batch), I (((clerkTick (((clerkAsk kx x1).1))).1).every), I (((clerkTick (((clerkAsk kx x1).1))).1).now), Sl a11 ((((clerkTick (((clerkAsk kx x1).1))).1).heads).length) c11, Sl a12 ((((clerkTick (((clerkAsk kx x1).1))).1).books).length) c12]], [Sg b2 0 [Sr a.name, Sr a.value, U a.n, U a.tag]], [Sg b1 0 [I c.queue.most, Sl a1 c.queue.wait.length c1, I c.batch, I c.every, I c.now, Sl a2 c.heads.length c2, Sl a3 c.books.length c3]]] ?_
                  refine runL_nil ?_
                  refine tq_block ?_
                  refine tq_then ?_
                  refine tc_region ?_
                  refine runL_b [0,0,0] [(2, Sl (At b4 o1) more.length c_more), (3, Pt b1 0), (4, Pt b2 0), (7, Pt b3 0), (8, I ((clerkAsk c a).2.1)), (10, I (IntKind.i64.wrap (((i : Int)) + 1)))] ?_
                  have e2 : IntKind.i64.wrap (((i : Int)) + 1) = ((i : Int)) + 1 := IntWalk.i64_in _ (by first | omega | (have q_ := due_start (c := c) (a := a) more (by assumption); obtain ⟨q1_, q2_, q3_, q4_⟩ := q_; have q5_ := (clerkAsk_ok (c := c) (a := a) (by assumption)).1.now; omega) | (have q7_ := due_len hI; omega) | (have q_ := due_start (c := c) (a := a) more (by assumption); obtain ⟨q1_, q2_, q3_, q4_⟩ := q_; have q5_ := (clerkAsk_ok (c := c) (a := a) (by assumption)).1.now; have q7_ := due_len hI; omega))
                  refine runL_eq (fr' := [(2, Sl (At b4 o1) more.length c_more), (3, Pt b1 0), (4, Pt b2 0), (7, Pt b3 0), (8, I ((clerkAsk c a).2.1)), (10, I (((i : Int)) + 1))]) (L' := [[Sg b6 0 [I (((clerkTick (((clerkAsk kx x1).1))).1).queue.most), Sl a10 ((((clerkTick (((clerkAsk kx x1).1))).1).queue.wait).length) c10, I (((clerkTick (((clerkAsk kx x1).1))).1).batch), I (((clerkTick (((clerkAsk kx x1).1))).1).every), I (((clerkTick (((clerkAsk kx x1).1))).1).now), Sl a11 ((((clerkTick (((clerkAsk kx x1).1))).1).heads).length) c11, Sl a12 ((((clerkTick (((clerkAsk kx x1).1))).1).books).length) c12]], [Sg b5 0 [I (((clerkAsk kx x1).1).queue.most), Sl a7 ((((clerkAsk kx x1).1).queue.wait).length) c7, I (((clerkAsk kx x1).1).batch), I (((clerkAsk kx x1).1).every), I (((clerkAsk kx x1).1).now), Sl a8 ((((clerkAsk kx x1).1).heads).length) c8, Sl a9 ((((clerkAsk kx x1).1).books).length) c9]], [Sg b3 0 [I (((clerkTick (((clerkAsk kx x1).1))).1).queue.most), Sl a10 ((((clerkTick (((clerkAsk kx x1).1))).1).queue.wait).length) c10, I (((clerkTick (((clerkAsk kx x1).1))).1).batch), I (((clerkTick (((clerkAsk kx x1).1))).1).every), I (((clerkTick (((clerkAsk kx x1).1))).1).now), Sl a11 ((((clerkTick (((clerkAsk kx x1).1))).1).heads).length) c11, Sl a12 ((((clerkTick (((clerkAsk kx x1).1))).1).books).length) c12]], [Sg b2 0 [Sr a.name, Sr a.value, U a.n, U a.tag]], [Sg b1 0 [I c.queue.most, Sl a1 c.queue.wait.length c1, I c.batch, I c.every, I c.now, Sl a2 c.heads.length c2, Sl a3 c.books.length c3]]]) (by simp only [e2]) (by rfl) ?_
                  clear e2
                  refine runL_nil ?_
                  refine tq_owns [[Sg b3 0 [I (((clerkTick (((clerkAsk kx x1).1))).1).queue.most), Sl a10 ((((clerkTick (((clerkAsk kx x1).1))).1).queue.wait).length) c10, I (((clerkTick (((clerkAsk kx x1).1))).1).batch), I (((clerkTick (((clerkAsk kx x1).1))).1).every), I (((clerkTick (((clerkAsk kx x1).1))).1).now), Sl a11 ((((clerkTick (((clerkAsk kx x1).1))).1).heads).length) c11, Sl a12 ((((clerkTick (((clerkAsk kx x1).1))).1).books).length) c12]], [Sg b2 0 [Sr a.name, Sr a.value, U a.n, U a.tag]], [Sg b1 0 [I c.queue.most, Sl a1 c.queue.wait.length c1, I c.batch, I c.every, I c.now, Sl a2 c.heads.length c2, Sl a3 c.books.length c3]]] ((.cons _ (.cons _ (.cons_cons _ (.cons_cons _ (.cons_cons _ .slnil)))))) ?_
                  exact tq_rnd ((i + 1, ((clerkTick (((clerkAsk kx x1).1))).1), a10, c10, a11, c11, a12, c12, G3)) ⟨(Mem.le_trans hle (Mem.le_trans hl2 hl3)), (by (try dsimp only); first | exact (due_next hI (by assumption) (by assumption) hi).2 | exact (due_next2 hI (by assumption) (by assumption) (by assumption) (by assumption) hi).2), (by first | assumption | omega | (simp; done) | (simp; omega)), hs10, (by first | assumption | omega | (simp; done) | (simp; omega)), (by first | assumption | omega | (simp; done) | (simp; omega)), (by first | assumption | omega | (simp; done) | (simp; omega)), hs11, hs12, (by (try dsimp only); first | exact (due_next hI (by assumption) (by assumption) hi).1 | exact (due_next2 hI (by assumption) (by assumption) (by assumption) (by assumption) hi).1)⟩ (by (try dsimp only); first | (have q9_ := (due_next hI (by assumption) (by assumption) hi).2; omega) | (have q9_ := (due_next2 hI (by assumption) (by assumption) (by assumption) (by assumption) hi).2; omega))
            ·
              try simp only [decide_eq_true_eq, decide_eq_false_iff_not, Bool.and_eq_true, Bool.or_eq_true, Bool.and_eq_false_imp, Bool.or_eq_false_iff, Bool.not_eq_true', Bool.not_eq_false', Bool.not_eq_true, Bool.not_eq_false, beq_iff_eq, beq_eq_false_iff_ne, bne_iff_ne, ne_eq, Decidable.not_not, Int.not_lt, Int.not_le] at h5
              refine tc_skip ?_
              refine tq_then ?_
              refine tc_seq ?_
              refine tc_region ?_
              refine runL_b [4] [(2, Sl (At b4 o1) more.length c_more), (3, Pt b1 0), (4, Pt b2 0), (7, Pt b3 0), (8, I ((clerkAsk c a).2.1)), (10, I ((i : Int))), (73, .agg #[I kx.queue.most, Sl akx0 kx.queue.wait.length ckx0, I kx.batch, I kx.every, I kx.now, Sl akx1 kx.heads.length ckx1, Sl akx2 kx.books.length ckx2])] ?_
              refine runL_callR 74 (clerkTick_con G2 [I kx.queue.most, Sl akx0 kx.queue.wait.length ckx0, I kx.batch, I kx.every, I kx.now, Sl akx1 kx.heads.length ckx1, Sl akx2 kx.books.length ckx2] kx (⟨akx0, ckx0, akx1, ckx1, akx2, ckx2, rfl, hkx0, (hkx1.mono hl2), hkx2, hkx3, hkx4, (hkx5.mono hl2), (hkx6.mono hl2)⟩)) (fun v G4 L1 hl4 hp => ?_)
              obtain ⟨a13, c13, a14, c14, a15, c15, rfl, w27, hs13, w28, w29, w30, hs14, hs15, rfl⟩ := hp
              refine runL_b [0,0,0,0] [(2, Sl (At b4 o1) more.length c_more), (3, Pt b1 0), (4, Pt b2 0), (7, Pt b3 0), (8, I ((clerkAsk c a).2.1)), (10, I ((i : Int))), (75, .agg #[I (((clerkTick kx).1).queue.most), Sl a13 ((((clerkTick kx).1).queue.wait).length) c13, I (((clerkTick kx).1).batch), I (((clerkTick kx).1).every), I (((clerkTick kx).1).now), Sl a14 ((((clerkTick kx).1).heads).length) c14, Sl a15 ((((clerkTick kx).1).books).length) c15]), (76, Bo ((clerkTick kx).2.1)), (77, I ((clerkTick kx).2.2))] ?_
              refine runL_box 14 #[I 0, Sl none 0 0, I 0, I 0, I 0, Sl none 0 0, Sl none 0 0] 28 (fun b7 => ?_)
              refine runL_bs [3,0,0] [(2, Sl (At b4 o1) more.length c_more), (3, Pt b1 0), (4, Pt b2 0), (7, Pt b3 0), (8, I ((clerkAsk c a).2.1)), (10, I ((i : Int))), (14, Pt b7 0), (16, I ((clerkTick kx).2.2))] [[Sg b7 0 [I (((clerkTick kx).1).queue.most), Sl a13 ((((clerkTick kx).1).queue.wait).length) c13, I (((clerkTick kx).1).batch), I (((clerkTick kx).1).every), I (((clerkTick kx).1).now), Sl a14 ((((clerkTick kx).1).heads).length) c14, Sl a15 ((((clerkTick kx).1).books).length) c15]], [Sg b5 0 [I (((clerkAsk kx x1).1).queue.most), Sl a7 ((((clerkAsk kx x1).1).queue.wait).length) c7, I (((clerkAsk kx x1).1).batch), I (((clerkAsk kx x1).1).every), I (((clerkAsk kx x1).1).now), Sl a8 ((((clerkAsk kx x1).1).heads).length) c8, Sl a9 ((((clerkAsk kx x1).1).books).length) c9]], [Sg b3 0 [I kx.queue.most, Sl akx0 kx.queue.wait.length ckx0, I kx.batch, I kx.every, I kx.now, Sl akx1 kx.heads.length ckx1, Sl akx2 kx.books.length ckx2]], [Sg b2 0 [Sr a.name, Sr a.value, U a.n, U a.tag]], [Sg b1 0 [I c.queue.most, Sl a1 c.queue.wait.length c1, I c.batch, I c.every, I c.now, Sl a2 c.heads.length c2, Sl a3 c.books.length c3]]] ?_
              refine runL_nil ?_
              refine tq_then ?_
              refine tc_seq ?_
              refine tc_rb [0,0] [(2, Sl (At b4 o1) more.length c_more), (3, Pt b1 0), (4, Pt b2 0), (7, Pt b3 0), (8, I ((clerkAsk c a).2.1)), (10, I ((i : Int))), (14, Pt b7 0), (79, Bo (!decide ((clerkTick kx).2.2 = 0)))] ?_
              refine tc_cond (!decide ((clerkTick kx).2.2 = 0)) (fun h8 => ?_) (fun h8 => ?_)
              ·
                try simp only [decide_eq_true_eq, decide_eq_false_iff_not, Bool.and_eq_true, Bool.or_eq_true, Bool.and_eq_false_imp, Bool.or_eq_false_iff, Bool.not_eq_true', Bool.not_eq_false', Bool.not_eq_true, Bool.not_eq_false, beq_iff_eq, beq_eq_false_iff_ne, bne_iff_ne, ne_eq, Decidable.not_not, Int.not_lt, Int.not_le] at h8
                refine tc_rb [0] [(6, Bo false)] ?_
                refine tc_ret ?_
                refine tq_then_ret ?_
                refine tq_block_ret ?_
                refine tq_then_ret ?_
                refine tq_rnd_ret ?_
                refine tq_block_ret ?_
                refine tq_then_ret ?_
                refine tq_ret [0] [Bo false] (bp_ret (Mem.le_trans (Mem.le_trans (Mem.le_trans hl1 hle) hl2) hl4) ?_)
                exfalso
                first | rfl | (obtain ⟨q1_, q2_⟩ := clerkAsk_err (by assumption); rw [q1_, q2_]; rfl) | (have q_ := clerkAsk_err (by assumption); simp_all [clerkZ]; done) | (have q_ := due_start (c := c) (a := a) more (by assumption); obtain ⟨q1_, q2_, q3_, q4_⟩ := q_; have q5_ := (clerkAsk_ok (c := c) (a := a) (by assumption)).1.now; simp; omega) | (exact absurd (due_tk hI) (by assumption)) | (exact absurd (due_tk2 hI (by assumption) (by assumption)) (by assumption)) | exact due_fin hI (by omega) hK (by omega)
              ·
                try simp only [decide_eq_true_eq, decide_eq_false_iff_not, Bool.and_eq_true, Bool.or_eq_true, Bool.and_eq_false_imp, Bool.or_eq_false_iff, Bool.not_eq_true', Bool.not_eq_false', Bool.not_eq_true, Bool.not_eq_false, beq_iff_eq, beq_eq_false_iff_ne, bne_iff_ne, ne_eq, Decidable.not_not, Int.not_lt, Int.not_le] at h8
                refine tc_skip ?_
                refine tq_then ?_
                refine tc_seq ?_
                refine tc_rb [0,2,0,6,0] [(2, Sl (At b4 o1) more.length c_more), (3, Pt b1 0), (4, Pt b2 0), (7, Pt b3 0), (8, I ((clerkAsk c a).2.1)), (10, I ((i : Int))), (14, Pt b7 0), (84, Bo (decide (((clerkTick kx).1).now = kx.now)))] ?_
                refine tc_cond (decide (((clerkTick kx).1).now = kx.now)) (fun h9 => ?_) (fun h9 => ?_)
                ·
                  try simp only [decide_eq_true_eq, decide_eq_false_iff_not, Bool.and_eq_true, Bool.or_eq_true, Bool.and_eq_false_imp, Bool.or_eq_false_iff, Bool.not_eq_true', Bool.not_eq_false', Bool.not_eq_true, Bool.not_eq_false, beq_iff_eq, beq_eq_false_iff_ne, bne_iff_ne, ne_eq, Decidable.not_not, Int.not_lt, Int.not_le] at h9
                  refine tc_rb [0] [(6, Bo true)] ?_
                  refine tc_ret ?_
                  refine tq_then_ret ?_
                  refine tq_block_ret ?_
                  refine tq_then_ret ?_
                  refine tq_rnd_ret ?_
                  refine tq_block_ret ?_
                  refine tq_then_ret ?_
                  refine tq_ret [0] [Bo true] (bp_ret (Mem.le_trans (Mem.le_trans (Mem.le_trans hl1 hle) hl2) hl4) ?_)
                  rfl
                ·
                  try simp only [decide_eq_true_eq, decide_eq_false_iff_not, Bool.and_eq_true, Bool.or_eq_true, Bool.and_eq_false_imp, Bool.or_eq_false_iff, Bool.not_eq_true', Bool.not_eq_false', Bool.not_eq_true, Bool.not_eq_false, beq_iff_eq, beq_eq_false_iff_ne, bne_iff_ne, ne_eq, Decidable.not_not, Int.not_lt, Int.not_le] at h9
                  refine tc_skip ?_
                  refine tq_then ?_
                  refine tc_region ?_
                  refine runL_bs [2,7] [(2, Sl (At b4 o1) more.length c_more), (3, Pt b1 0), (4, Pt b2 0), (7, Pt b3 0), (8, I ((clerkAsk c a).2.1)), (10, I ((i : Int)))] [[Sg b7 0 [I (((clerkTick kx).1).queue.most), Sl a13 ((((clerkTick kx).1).queue.wait).length) c13, I (((clerkTick kx).1).batch), I (((clerkTick kx).1).every), I (((clerkTick kx).1).now), Sl a14 ((((clerkTick kx).1).heads).length) c14, Sl a15 ((((clerkTick kx).1).books).length) c15]], [Sg b5 0 [I (((clerkAsk kx x1).1).queue.most), Sl a7 ((((clerkAsk kx x1).1).queue.wait).length) c7, I (((clerkAsk kx x1).1).batch), I (((clerkAsk kx x1).1).every), I (((clerkAsk kx x1).1).now), Sl a8 ((((clerkAsk kx x1).1).heads).length) c8, Sl a9 ((((clerkAsk kx x1).1).books).length) c9]], [Sg b3 0 [I (((clerkTick kx).1).queue.most), Sl a13 ((((clerkTick kx).1).queue.wait).length) c13, I (((clerkTick kx).1).batch), I (((clerkTick kx).1).every), I (((clerkTick kx).1).now), Sl a14 ((((clerkTick kx).1).heads).length) c14, Sl a15 ((((clerkTick kx).1).books).length) c15]], [Sg b2 0 [Sr a.name, Sr a.value, U a.n, U a.tag]], [Sg b1 0 [I c.queue.most, Sl a1 c.queue.wait.length c1, I c.batch, I c.every, I c.now, Sl a2 c.heads.length c2, Sl a3 c.books.length c3]]] ?_
                  refine runL_nil ?_
                  refine tq_block ?_
                  refine tq_then ?_
                  refine tc_region ?_
                  refine runL_b [0,0,0] [(2, Sl (At b4 o1) more.length c_more), (3, Pt b1 0), (4, Pt b2 0), (7, Pt b3 0), (8, I ((clerkAsk c a).2.1)), (10, I (IntKind.i64.wrap (((i : Int)) + 1)))] ?_
                  have e3 : IntKind.i64.wrap (((i : Int)) + 1) = ((i : Int)) + 1 := IntWalk.i64_in _ (by first | omega | (have q_ := due_start (c := c) (a := a) more (by assumption); obtain ⟨q1_, q2_, q3_, q4_⟩ := q_; have q5_ := (clerkAsk_ok (c := c) (a := a) (by assumption)).1.now; omega) | (have q7_ := due_len hI; omega) | (have q_ := due_start (c := c) (a := a) more (by assumption); obtain ⟨q1_, q2_, q3_, q4_⟩ := q_; have q5_ := (clerkAsk_ok (c := c) (a := a) (by assumption)).1.now; have q7_ := due_len hI; omega))
                  refine runL_eq (fr' := [(2, Sl (At b4 o1) more.length c_more), (3, Pt b1 0), (4, Pt b2 0), (7, Pt b3 0), (8, I ((clerkAsk c a).2.1)), (10, I (((i : Int)) + 1))]) (L' := [[Sg b7 0 [I (((clerkTick kx).1).queue.most), Sl a13 ((((clerkTick kx).1).queue.wait).length) c13, I (((clerkTick kx).1).batch), I (((clerkTick kx).1).every), I (((clerkTick kx).1).now), Sl a14 ((((clerkTick kx).1).heads).length) c14, Sl a15 ((((clerkTick kx).1).books).length) c15]], [Sg b5 0 [I (((clerkAsk kx x1).1).queue.most), Sl a7 ((((clerkAsk kx x1).1).queue.wait).length) c7, I (((clerkAsk kx x1).1).batch), I (((clerkAsk kx x1).1).every), I (((clerkAsk kx x1).1).now), Sl a8 ((((clerkAsk kx x1).1).heads).length) c8, Sl a9 ((((clerkAsk kx x1).1).books).length) c9]], [Sg b3 0 [I (((clerkTick kx).1).queue.most), Sl a13 ((((clerkTick kx).1).queue.wait).length) c13, I (((clerkTick kx).1).batch), I (((clerkTick kx).1).every), I (((clerkTick kx).1).now), Sl a14 ((((clerkTick kx).1).heads).length) c14, Sl a15 ((((clerkTick kx).1).books).length) c15]], [Sg b2 0 [Sr a.name, Sr a.value, U a.n, U a.tag]], [Sg b1 0 [I c.queue.most, Sl a1 c.queue.wait.length c1, I c.batch, I c.every, I c.now, Sl a2 c.heads.length c2, Sl a3 c.books.length c3]]]) (by simp only [e3]) (by rfl) ?_
                  clear e3
                  refine runL_nil ?_
                  refine tq_owns [[Sg b3 0 [I (((clerkTick kx).1).queue.most), Sl a13 ((((clerkTick kx).1).queue.wait).length) c13, I (((clerkTick kx).1).batch), I (((clerkTick kx).1).every), I (((clerkTick kx).1).now), Sl a14 ((((clerkTick kx).1).heads).length) c14, Sl a15 ((((clerkTick kx).1).books).length) c15]], [Sg b2 0 [Sr a.name, Sr a.value, U a.n, U a.tag]], [Sg b1 0 [I c.queue.most, Sl a1 c.queue.wait.length c1, I c.batch, I c.every, I c.now, Sl a2 c.heads.length c2, Sl a3 c.books.length c3]]] ((.cons _ (.cons _ (.cons_cons _ (.cons_cons _ (.cons_cons _ .slnil)))))) ?_
                  exact tq_rnd ((i + 1, ((clerkTick kx).1), a13, c13, a14, c14, a15, c15, G4)) ⟨(Mem.le_trans hle (Mem.le_trans hl2 hl4)), (by (try dsimp only); first | exact (due_next hI (by assumption) (by assumption) hi).2 | exact (due_next2 hI (by assumption) (by assumption) (by assumption) (by assumption) hi).2), (by first | assumption | omega | (simp; done) | (simp; omega)), hs13, (by first | assumption | omega | (simp; done) | (simp; omega)), (by first | assumption | omega | (simp; done) | (simp; omega)), (by first | assumption | omega | (simp; done) | (simp; omega)), hs14, hs15, (by (try dsimp only); first | exact (due_next hI (by assumption) (by assumption) hi).1 | exact (due_next2 hI (by assumption) (by assumption) (by assumption) (by assumption) hi).1)⟩ (by (try dsimp only); first | (have q9_ := (due_next hI (by assumption) (by assumption) hi).2; omega) | (have q9_ := (due_next2 hI (by assumption) (by assumption) (by assumption) (by assumption) hi).2; omega))
          refine act_of 10 [] (fun X => ?_)
          refine runL_box 11 #[I 0, Sl none 0 0, I 0, I 0, I 0, Sl none 0 0, Sl none 0 0] 28 (fun b8 => ?_)
          refine act_end (V' := [(0, .agg #[I kx.queue.most, Sl akx0 kx.queue.wait.length ckx0, I kx.batch, I kx.every, I kx.now, Sl akx1 kx.heads.length ckx1, Sl akx2 kx.books.length ckx2]), (1, Sl (At b4 o1) more.length c_more), (2, I ((i : Int))), (3, Pt b4 (o1 + i * 4)), (4, .agg #[Sr x1.name, Sr x1.value, U x1.n, U x1.tag]), (10, Pt b8 0)]) ?_
          refine dr_mid [] [(0,4), (1,0), (2,0)] [3, 4] [5] (List.forall_mem_cons.2 ⟨?_, (List.forall_mem_cons.2 ⟨?_, List.forall_mem_nil _⟩)⟩) (List.forall_mem_cons.2 ⟨?_, List.forall_mem_nil _⟩)
          · refine stab_of 3 63 (Pt b4 (o1 + i * 4)) [(61, Sl (At b4 o1) more.length c_more), (62, I ((i : Int)))] (fun X => ?_)
            exact runL_idx (b := b4) (off := o1) (len := more.length) (cap := c_more) (ik := .i64) 63 54 4 i (by first | omega | (have q_ := due_start (c := c) (a := a) more (by assumption); obtain ⟨q1_, q2_, q3_, q4_⟩ := q_; have q5_ := (clerkAsk_ok (c := c) (a := a) (by assumption)).1.now; omega) | (have q7_ := due_len hI; omega) | (have q_ := due_start (c := c) (a := a) more (by assumption); obtain ⟨q1_, q2_, q3_, q4_⟩ := q_; have q5_ := (clerkAsk_ok (c := c) (a := a) (by assumption)).1.now; have q7_ := due_len hI; omega)) stab_end
          · refine stab_of 4 64 (.agg #[Sr x1.name, Sr x1.value, U x1.n, U x1.tag]) [(63, Pt b4 (o1 + i * 4))] (fun X => ?_)
            exact runL_ldG 64 54 (cs := [Sr x1.name, Sr x1.value, U x1.n, U x1.tag]) 0 (.agg #[Sr x1.name, Sr x1.value, U x1.n, U x1.tag]) hc1 stab_end
          refine act_of 5 [(60, .agg #[I kx.queue.most, Sl akx0 kx.queue.wait.length ckx0, I kx.batch, I kx.every, I kx.now, Sl akx1 kx.heads.length ckx1, Sl akx2 kx.books.length ckx2]), (64, .agg #[Sr x1.name, Sr x1.value, U x1.n, U x1.tag])] (fun X => ?_)
          refine runL_callR 65 (clerkAsk_con g [I kx.queue.most, Sl akx0 kx.queue.wait.length ckx0, I kx.batch, I kx.every, I kx.now, Sl akx1 kx.heads.length ckx1, Sl akx2 kx.books.length ckx2] kx (⟨akx0, ckx0, akx1, ckx1, akx2, ckx2, rfl, hkx0, hkx1, hkx2, hkx3, hkx4, hkx5, hkx6⟩) [Sr x1.name, Sr x1.value, U x1.n, U x1.tag] x1 (⟨rfl, w14, w15, w16, w17⟩)) (fun v G5 L1 hl5 hp => ?_)
          obtain ⟨a16, c16, a17, c17, a18, c18, rfl, w31, hs16, w32, w33, w34, hs17, hs18, w35, rfl⟩ := hp
          refine act_end (V' := [(0, .agg #[I kx.queue.most, Sl akx0 kx.queue.wait.length ckx0, I kx.batch, I kx.every, I kx.now, Sl akx1 kx.heads.length ckx1, Sl akx2 kx.books.length ckx2]), (1, Sl (At b4 o1) more.length c_more), (2, I ((i : Int))), (3, Pt b4 (o1 + i * 4)), (4, .agg #[Sr x1.name, Sr x1.value, U x1.n, U x1.tag]), (5, .tuple #[.agg #[I (((clerkAsk kx x1).1).queue.most), Sl a16 ((((clerkAsk kx x1).1).queue.wait).length) c16, I (((clerkAsk kx x1).1).batch), I (((clerkAsk kx x1).1).every), I (((clerkAsk kx x1).1).now), Sl a17 ((((clerkAsk kx x1).1).heads).length) c17, Sl a18 ((((clerkAsk kx x1).1).books).length) c18], I ((clerkAsk kx x1).2.1), I ((clerkAsk kx x1).2.2)]), (6, .tuple #[.agg #[I (((clerkAsk kx x1).1).queue.most), Sl a16 ((((clerkAsk kx x1).1).queue.wait).length) c16, I (((clerkAsk kx x1).1).batch), I (((clerkAsk kx x1).1).every), I (((clerkAsk kx x1).1).now), Sl a17 ((((clerkAsk kx x1).1).heads).length) c17, Sl a18 ((((clerkAsk kx x1).1).books).length) c18], I ((clerkAsk kx x1).2.1), I ((clerkAsk kx x1).2.2)]), (7, .agg #[I (((clerkAsk kx x1).1).queue.most), Sl a16 ((((clerkAsk kx x1).1).queue.wait).length) c16, I (((clerkAsk kx x1).1).batch), I (((clerkAsk kx x1).1).every), I (((clerkAsk kx x1).1).now), Sl a17 ((((clerkAsk kx x1).1).heads).length) c17, Sl a18 ((((clerkAsk kx x1).1).books).length) c18]), (8, I ((clerkAsk kx x1).2.1)), (9, I ((clerkAsk kx x1).2.2)), (10, Pt b8 0)]) ?_
          refine dr_mid [0, 1, 2, 3, 4] [(6,0), (7,0), (8,0), (9,0)] [] [11] (List.forall_mem_nil _) (List.forall_mem_cons.2 ⟨?_, List.forall_mem_nil _⟩)
          refine act_of 11 [(11, Pt b8 0), (66, .agg #[I (((clerkAsk kx x1).1).queue.most), Sl a16 ((((clerkAsk kx x1).1).queue.wait).length) c16, I (((clerkAsk kx x1).1).batch), I (((clerkAsk kx x1).1).every), I (((clerkAsk kx x1).1).now), Sl a17 ((((clerkAsk kx x1).1).heads).length) c17, Sl a18 ((((clerkAsk kx x1).1).books).length) c18])] (fun X => ?_)
          refine runL_st 0 [[Sg b8 0 [I (((clerkAsk kx x1).1).queue.most), Sl a16 ((((clerkAsk kx x1).1).queue.wait).length) c16, I (((clerkAsk kx x1).1).batch), I (((clerkAsk kx x1).1).every), I (((clerkAsk kx x1).1).now), Sl a17 ((((clerkAsk kx x1).1).heads).length) c17, Sl a18 ((((clerkAsk kx x1).1).books).length) c18]], [Sg b3 0 [I kx.queue.most, Sl akx0 kx.queue.wait.length ckx0, I kx.batch, I kx.every, I kx.now, Sl akx1 kx.heads.length ckx1, Sl akx2 kx.books.length ckx2]], [Sg b2 0 [Sr a.name, Sr a.value, U a.n, U a.tag]], [Sg b1 0 [I c.queue.most, Sl a1 c.queue.wait.length c1, I c.batch, I c.every, I c.now, Sl a2 c.heads.length c2, Sl a3 c.books.length c3]]] ?_
          refine act_end0 (V' := [(0, .agg #[I kx.queue.most, Sl akx0 kx.queue.wait.length ckx0, I kx.batch, I kx.every, I kx.now, Sl akx1 kx.heads.length ckx1, Sl akx2 kx.books.length ckx2]), (1, Sl (At b4 o1) more.length c_more), (2, I ((i : Int))), (3, Pt b4 (o1 + i * 4)), (4, .agg #[Sr x1.name, Sr x1.value, U x1.n, U x1.tag]), (5, .tuple #[.agg #[I (((clerkAsk kx x1).1).queue.most), Sl a16 ((((clerkAsk kx x1).1).queue.wait).length) c16, I (((clerkAsk kx x1).1).batch), I (((clerkAsk kx x1).1).every), I (((clerkAsk kx x1).1).now), Sl a17 ((((clerkAsk kx x1).1).heads).length) c17, Sl a18 ((((clerkAsk kx x1).1).books).length) c18], I ((clerkAsk kx x1).2.1), I ((clerkAsk kx x1).2.2)]), (6, .tuple #[.agg #[I (((clerkAsk kx x1).1).queue.most), Sl a16 ((((clerkAsk kx x1).1).queue.wait).length) c16, I (((clerkAsk kx x1).1).batch), I (((clerkAsk kx x1).1).every), I (((clerkAsk kx x1).1).now), Sl a17 ((((clerkAsk kx x1).1).heads).length) c17, Sl a18 ((((clerkAsk kx x1).1).books).length) c18], I ((clerkAsk kx x1).2.1), I ((clerkAsk kx x1).2.2)]), (7, .agg #[I (((clerkAsk kx x1).1).queue.most), Sl a16 ((((clerkAsk kx x1).1).queue.wait).length) c16, I (((clerkAsk kx x1).1).batch), I (((clerkAsk kx x1).1).every), I (((clerkAsk kx x1).1).now), Sl a17 ((((clerkAsk kx x1).1).heads).length) c17, Sl a18 ((((clerkAsk kx x1).1).books).length) c18]), (8, I ((clerkAsk kx x1).2.1)), (9, I ((clerkAsk kx x1).2.2)), (10, Pt b8 0), (12, I ((clerkAsk kx x1).2.1)), (13, I ((clerkAsk kx x1).2.2))]) ?_
          refine dr_end [0, 1, 2, 3, 4, 6, 7] [(8,0), (9,0), (12,0), (13,0)] [] [(2, Sl (At b4 o1) more.length c_more), (3, Pt b1 0), (4, Pt b2 0), (7, Pt b3 0), (8, I ((clerkAsk c a).2.1)), (10, I ((i : Int))), (11, Pt b8 0), (13, I ((clerkAsk kx x1).2.2))] (List.forall_mem_nil _) ?_
          refine tq_then ?_
          refine tc_rb [0,0] [(2, Sl (At b4 o1) more.length c_more), (3, Pt b1 0), (4, Pt b2 0), (7, Pt b3 0), (8, I ((clerkAsk c a).2.1)), (10, I ((i : Int))), (11, Pt b8 0), (70, Bo (decide ((clerkAsk kx x1).2.2 = 0)))] ?_
          refine tc_cond (decide ((clerkAsk kx x1).2.2 = 0)) (fun h10 => ?_) (fun h10 => ?_)
          ·
            try simp only [decide_eq_true_eq, decide_eq_false_iff_not, Bool.and_eq_true, Bool.or_eq_true, Bool.and_eq_false_imp, Bool.or_eq_false_iff, Bool.not_eq_true', Bool.not_eq_false', Bool.not_eq_true, Bool.not_eq_false, beq_iff_eq, beq_eq_false_iff_ne, bne_iff_ne, ne_eq, Decidable.not_not, Int.not_lt, Int.not_le] at h10
            refine tc_region ?_
            refine runL_bs [2,5] [(2, Sl (At b4 o1) more.length c_more), (3, Pt b1 0), (4, Pt b2 0), (7, Pt b3 0), (8, I ((clerkAsk c a).2.1)), (10, I ((i : Int)))] [[Sg b8 0 [I (((clerkAsk kx x1).1).queue.most), Sl a16 ((((clerkAsk kx x1).1).queue.wait).length) c16, I (((clerkAsk kx x1).1).batch), I (((clerkAsk kx x1).1).every), I (((clerkAsk kx x1).1).now), Sl a17 ((((clerkAsk kx x1).1).heads).length) c17, Sl a18 ((((clerkAsk kx x1).1).books).length) c18]], [Sg b3 0 [I (((clerkAsk kx x1).1).queue.most), Sl a16 ((((clerkAsk kx x1).1).queue.wait).length) c16, I (((clerkAsk kx x1).1).batch), I (((clerkAsk kx x1).1).every), I (((clerkAsk kx x1).1).now), Sl a17 ((((clerkAsk kx x1).1).heads).length) c17, Sl a18 ((((clerkAsk kx x1).1).books).length) c18]], [Sg b2 0 [Sr a.name, Sr a.value, U a.n, U a.tag]], [Sg b1 0 [I c.queue.most, Sl a1 c.queue.wait.length c1, I c.batch, I c.every, I c.now, Sl a2 c.heads.length c2, Sl a3 c.books.length c3]]] ?_
            refine runL_nil ?_
            refine tq_then ?_
            refine tc_seq ?_
            refine tc_region ?_
            refine runL_b [4] [(2, Sl (At b4 o1) more.length c_more), (3, Pt b1 0), (4, Pt b2 0), (7, Pt b3 0), (8, I ((clerkAsk c a).2.1)), (10, I ((i : Int))), (73, .agg #[I (((clerkAsk kx x1).1).queue.most), Sl a16 ((((clerkAsk kx x1).1).queue.wait).length) c16, I (((clerkAsk kx x1).1).batch), I (((clerkAsk kx x1).1).every), I (((clerkAsk kx x1).1).now), Sl a17 ((((clerkAsk kx x1).1).heads).length) c17, Sl a18 ((((clerkAsk kx x1).1).books).length) c18])] ?_
            refine runL_callR 74 (clerkTick_con G5 [I (((clerkAsk kx x1).1).queue.most), Sl a16 ((((clerkAsk kx x1).1).queue.wait).length) c16, I (((clerkAsk kx x1).1).batch), I (((clerkAsk kx x1).1).every), I (((clerkAsk kx x1).1).now), Sl a17 ((((clerkAsk kx x1).1).heads).length) c17, Sl a18 ((((clerkAsk kx x1).1).books).length) c18] (((clerkAsk kx x1).1)) (⟨a16, c16, a17, c17, a18, c18, rfl, w31, hs16, w32, w33, w34, hs17, hs18⟩)) (fun v G6 L1 hl6 hp => ?_)
            obtain ⟨a19, c19, a20, c20, a21, c21, rfl, w36, hs19, w37, w38, w39, hs20, hs21, rfl⟩ := hp
            refine runL_b [0,0,0,0] [(2, Sl (At b4 o1) more.length c_more), (3, Pt b1 0), (4, Pt b2 0), (7, Pt b3 0), (8, I ((clerkAsk c a).2.1)), (10, I ((i : Int))), (75, .agg #[I (((clerkTick (((clerkAsk kx x1).1))).1).queue.most), Sl a19 ((((clerkTick (((clerkAsk kx x1).1))).1).queue.wait).length) c19, I (((clerkTick (((clerkAsk kx x1).1))).1).batch), I (((clerkTick (((clerkAsk kx x1).1))).1).every), I (((clerkTick (((clerkAsk kx x1).1))).1).now), Sl a20 ((((clerkTick (((clerkAsk kx x1).1))).1).heads).length) c20, Sl a21 ((((clerkTick (((clerkAsk kx x1).1))).1).books).length) c21]), (76, Bo ((clerkTick (((clerkAsk kx x1).1))).2.1)), (77, I ((clerkTick (((clerkAsk kx x1).1))).2.2))] ?_
            refine runL_box 14 #[I 0, Sl none 0 0, I 0, I 0, I 0, Sl none 0 0, Sl none 0 0] 28 (fun b9 => ?_)
            refine runL_bs [3,0,0] [(2, Sl (At b4 o1) more.length c_more), (3, Pt b1 0), (4, Pt b2 0), (7, Pt b3 0), (8, I ((clerkAsk c a).2.1)), (10, I ((i : Int))), (14, Pt b9 0), (16, I ((clerkTick (((clerkAsk kx x1).1))).2.2))] [[Sg b9 0 [I (((clerkTick (((clerkAsk kx x1).1))).1).queue.most), Sl a19 ((((clerkTick (((clerkAsk kx x1).1))).1).queue.wait).length) c19, I (((clerkTick (((clerkAsk kx x1).1))).1).batch), I (((clerkTick (((clerkAsk kx x1).1))).1).every), I (((clerkTick (((clerkAsk kx x1).1))).1).now), Sl a20 ((((clerkTick (((clerkAsk kx x1).1))).1).heads).length) c20, Sl a21 ((((clerkTick (((clerkAsk kx x1).1))).1).books).length) c21]], [Sg b8 0 [I (((clerkAsk kx x1).1).queue.most), Sl a16 ((((clerkAsk kx x1).1).queue.wait).length) c16, I (((clerkAsk kx x1).1).batch), I (((clerkAsk kx x1).1).every), I (((clerkAsk kx x1).1).now), Sl a17 ((((clerkAsk kx x1).1).heads).length) c17, Sl a18 ((((clerkAsk kx x1).1).books).length) c18]], [Sg b3 0 [I (((clerkAsk kx x1).1).queue.most), Sl a16 ((((clerkAsk kx x1).1).queue.wait).length) c16, I (((clerkAsk kx x1).1).batch), I (((clerkAsk kx x1).1).every), I (((clerkAsk kx x1).1).now), Sl a17 ((((clerkAsk kx x1).1).heads).length) c17, Sl a18 ((((clerkAsk kx x1).1).books).length) c18]], [Sg b2 0 [Sr a.name, Sr a.value, U a.n, U a.tag]], [Sg b1 0 [I c.queue.most, Sl a1 c.queue.wait.length c1, I c.batch, I c.every, I c.now, Sl a2 c.heads.length c2, Sl a3 c.books.length c3]]] ?_
            refine runL_nil ?_
            refine tq_then ?_
            refine tc_seq ?_
            refine tc_rb [0,0] [(2, Sl (At b4 o1) more.length c_more), (3, Pt b1 0), (4, Pt b2 0), (7, Pt b3 0), (8, I ((clerkAsk c a).2.1)), (10, I ((i : Int))), (14, Pt b9 0), (79, Bo (!decide ((clerkTick (((clerkAsk kx x1).1))).2.2 = 0)))] ?_
            refine tc_cond (!decide ((clerkTick (((clerkAsk kx x1).1))).2.2 = 0)) (fun h11 => ?_) (fun h11 => ?_)
            ·
              try simp only [decide_eq_true_eq, decide_eq_false_iff_not, Bool.and_eq_true, Bool.or_eq_true, Bool.and_eq_false_imp, Bool.or_eq_false_iff, Bool.not_eq_true', Bool.not_eq_false', Bool.not_eq_true, Bool.not_eq_false, beq_iff_eq, beq_eq_false_iff_ne, bne_iff_ne, ne_eq, Decidable.not_not, Int.not_lt, Int.not_le] at h11
              refine tc_rb [0] [(6, Bo false)] ?_
              refine tc_ret ?_
              refine tq_then_ret ?_
              refine tq_block_ret ?_
              refine tq_then_ret ?_
              refine tq_rnd_ret ?_
              refine tq_block_ret ?_
              refine tq_then_ret ?_
              refine tq_ret [0] [Bo false] (bp_ret (Mem.le_trans (Mem.le_trans (Mem.le_trans hl1 hle) hl5) hl6) ?_)
              exfalso
              first | rfl | (obtain ⟨q1_, q2_⟩ := clerkAsk_err (by assumption); rw [q1_, q2_]; rfl) | (have q_ := clerkAsk_err (by assumption); simp_all [clerkZ]; done) | (have q_ := due_start (c := c) (a := a) more (by assumption); obtain ⟨q1_, q2_, q3_, q4_⟩ := q_; have q5_ := (clerkAsk_ok (c := c) (a := a) (by assumption)).1.now; simp; omega) | (exact absurd (due_tk hI) (by assumption)) | (exact absurd (due_tk2 hI (by assumption) (by assumption)) (by assumption)) | exact due_fin hI (by omega) hK (by omega)
            ·
              try simp only [decide_eq_true_eq, decide_eq_false_iff_not, Bool.and_eq_true, Bool.or_eq_true, Bool.and_eq_false_imp, Bool.or_eq_false_iff, Bool.not_eq_true', Bool.not_eq_false', Bool.not_eq_true, Bool.not_eq_false, beq_iff_eq, beq_eq_false_iff_ne, bne_iff_ne, ne_eq, Decidable.not_not, Int.not_lt, Int.not_le] at h11
              refine tc_skip ?_
              refine tq_then ?_
              refine tc_seq ?_
              refine tc_rb [0,2,0,6,0] [(2, Sl (At b4 o1) more.length c_more), (3, Pt b1 0), (4, Pt b2 0), (7, Pt b3 0), (8, I ((clerkAsk c a).2.1)), (10, I ((i : Int))), (14, Pt b9 0), (84, Bo (decide (((clerkTick (((clerkAsk kx x1).1))).1).now = ((clerkAsk kx x1).1).now)))] ?_
              refine tc_cond (decide (((clerkTick (((clerkAsk kx x1).1))).1).now = ((clerkAsk kx x1).1).now)) (fun h12 => ?_) (fun h12 => ?_)
              ·
                try simp only [decide_eq_true_eq, decide_eq_false_iff_not, Bool.and_eq_true, Bool.or_eq_true, Bool.and_eq_false_imp, Bool.or_eq_false_iff, Bool.not_eq_true', Bool.not_eq_false', Bool.not_eq_true, Bool.not_eq_false, beq_iff_eq, beq_eq_false_iff_ne, bne_iff_ne, ne_eq, Decidable.not_not, Int.not_lt, Int.not_le] at h12
                refine tc_rb [0] [(6, Bo true)] ?_
                refine tc_ret ?_
                refine tq_then_ret ?_
                refine tq_block_ret ?_
                refine tq_then_ret ?_
                refine tq_rnd_ret ?_
                refine tq_block_ret ?_
                refine tq_then_ret ?_
                refine tq_ret [0] [Bo true] (bp_ret (Mem.le_trans (Mem.le_trans (Mem.le_trans hl1 hle) hl5) hl6) ?_)
                rfl
              ·
                try simp only [decide_eq_true_eq, decide_eq_false_iff_not, Bool.and_eq_true, Bool.or_eq_true, Bool.and_eq_false_imp, Bool.or_eq_false_iff, Bool.not_eq_true', Bool.not_eq_false', Bool.not_eq_true, Bool.not_eq_false, beq_iff_eq, beq_eq_false_iff_ne, bne_iff_ne, ne_eq, Decidable.not_not, Int.not_lt, Int.not_le] at h12
                refine tc_skip ?_
                refine tq_then ?_
                refine tc_region ?_
                refine runL_bs [2,7] [(2, Sl (At b4 o1) more.length c_more), (3, Pt b1 0), (4, Pt b2 0), (7, Pt b3 0), (8, I ((clerkAsk c a).2.1)), (10, I ((i : Int)))] [[Sg b9 0 [I (((clerkTick (((clerkAsk kx x1).1))).1).queue.most), Sl a19 ((((clerkTick (((clerkAsk kx x1).1))).1).queue.wait).length) c19, I (((clerkTick (((clerkAsk kx x1).1))).1).batch), I (((clerkTick (((clerkAsk kx x1).1))).1).every), I (((clerkTick (((clerkAsk kx x1).1))).1).now), Sl a20 ((((clerkTick (((clerkAsk kx x1).1))).1).heads).length) c20, Sl a21 ((((clerkTick (((clerkAsk kx x1).1))).1).books).length) c21]], [Sg b8 0 [I (((clerkAsk kx x1).1).queue.most), Sl a16 ((((clerkAsk kx x1).1).queue.wait).length) c16, I (((clerkAsk kx x1).1).batch), I (((clerkAsk kx x1).1).every), I (((clerkAsk kx x1).1).now), Sl a17 ((((clerkAsk kx x1).1).heads).length) c17, Sl a18 ((((clerkAsk kx x1).1).books).length) c18]], [Sg b3 0 [I (((clerkTick (((clerkAsk kx x1).1))).1).queue.most), Sl a19 ((((clerkTick (((clerkAsk kx x1).1))).1).queue.wait).length) c19, I (((clerkTick (((clerkAsk kx x1).1))).1).batch), I (((clerkTick (((clerkAsk kx x1).1))).1).every), I (((clerkTick (((clerkAsk kx x1).1))).1).now), Sl a20 ((((clerkTick (((clerkAsk kx x1).1))).1).heads).length) c20, Sl a21 ((((clerkTick (((clerkAsk kx x1).1))).1).books).length) c21]], [Sg b2 0 [Sr a.name, Sr a.value, U a.n, U a.tag]], [Sg b1 0 [I c.queue.most, Sl a1 c.queue.wait.length c1, I c.batch, I c.every, I c.now, Sl a2 c.heads.length c2, Sl a3 c.books.length c3]]] ?_
                refine runL_nil ?_
                refine tq_block ?_
                refine tq_then ?_
                refine tc_region ?_
                refine runL_b [0,0,0] [(2, Sl (At b4 o1) more.length c_more), (3, Pt b1 0), (4, Pt b2 0), (7, Pt b3 0), (8, I ((clerkAsk c a).2.1)), (10, I (IntKind.i64.wrap (((i : Int)) + 1)))] ?_
                have e4 : IntKind.i64.wrap (((i : Int)) + 1) = ((i : Int)) + 1 := IntWalk.i64_in _ (by first | omega | (have q_ := due_start (c := c) (a := a) more (by assumption); obtain ⟨q1_, q2_, q3_, q4_⟩ := q_; have q5_ := (clerkAsk_ok (c := c) (a := a) (by assumption)).1.now; omega) | (have q7_ := due_len hI; omega) | (have q_ := due_start (c := c) (a := a) more (by assumption); obtain ⟨q1_, q2_, q3_, q4_⟩ := q_; have q5_ := (clerkAsk_ok (c := c) (a := a) (by assumption)).1.now; have q7_ := due_len hI; omega))
                refine runL_eq (fr' := [(2, Sl (At b4 o1) more.length c_more), (3, Pt b1 0), (4, Pt b2 0), (7, Pt b3 0), (8, I ((clerkAsk c a).2.1)), (10, I (((i : Int)) + 1))]) (L' := [[Sg b9 0 [I (((clerkTick (((clerkAsk kx x1).1))).1).queue.most), Sl a19 ((((clerkTick (((clerkAsk kx x1).1))).1).queue.wait).length) c19, I (((clerkTick (((clerkAsk kx x1).1))).1).batch), I (((clerkTick (((clerkAsk kx x1).1))).1).every), I (((clerkTick (((clerkAsk kx x1).1))).1).now), Sl a20 ((((clerkTick (((clerkAsk kx x1).1))).1).heads).length) c20, Sl a21 ((((clerkTick (((clerkAsk kx x1).1))).1).books).length) c21]], [Sg b8 0 [I (((clerkAsk kx x1).1).queue.most), Sl a16 ((((clerkAsk kx x1).1).queue.wait).length) c16, I (((clerkAsk kx x1).1).batch), I (((clerkAsk kx x1).1).every), I (((clerkAsk kx x1).1).now), Sl a17 ((((clerkAsk kx x1).1).heads).length) c17, Sl a18 ((((clerkAsk kx x1).1).books).length) c18]], [Sg b3 0 [I (((clerkTick (((clerkAsk kx x1).1))).1).queue.most), Sl a19 ((((clerkTick (((clerkAsk kx x1).1))).1).queue.wait).length) c19, I (((clerkTick (((clerkAsk kx x1).1))).1).batch), I (((clerkTick (((clerkAsk kx x1).1))).1).every), I (((clerkTick (((clerkAsk kx x1).1))).1).now), Sl a20 ((((clerkTick (((clerkAsk kx x1).1))).1).heads).length) c20, Sl a21 ((((clerkTick (((clerkAsk kx x1).1))).1).books).length) c21]], [Sg b2 0 [Sr a.name, Sr a.value, U a.n, U a.tag]], [Sg b1 0 [I c.queue.most, Sl a1 c.queue.wait.length c1, I c.batch, I c.every, I c.now, Sl a2 c.heads.length c2, Sl a3 c.books.length c3]]]) (by simp only [e4]) (by rfl) ?_
                clear e4
                refine runL_nil ?_
                refine tq_owns [[Sg b3 0 [I (((clerkTick (((clerkAsk kx x1).1))).1).queue.most), Sl a19 ((((clerkTick (((clerkAsk kx x1).1))).1).queue.wait).length) c19, I (((clerkTick (((clerkAsk kx x1).1))).1).batch), I (((clerkTick (((clerkAsk kx x1).1))).1).every), I (((clerkTick (((clerkAsk kx x1).1))).1).now), Sl a20 ((((clerkTick (((clerkAsk kx x1).1))).1).heads).length) c20, Sl a21 ((((clerkTick (((clerkAsk kx x1).1))).1).books).length) c21]], [Sg b2 0 [Sr a.name, Sr a.value, U a.n, U a.tag]], [Sg b1 0 [I c.queue.most, Sl a1 c.queue.wait.length c1, I c.batch, I c.every, I c.now, Sl a2 c.heads.length c2, Sl a3 c.books.length c3]]] ((.cons _ (.cons _ (.cons_cons _ (.cons_cons _ (.cons_cons _ .slnil)))))) ?_
                exact tq_rnd ((i + 1, ((clerkTick (((clerkAsk kx x1).1))).1), a19, c19, a20, c20, a21, c21, G6)) ⟨(Mem.le_trans hle (Mem.le_trans hl5 hl6)), (by (try dsimp only); first | exact (due_next hI (by assumption) (by assumption) hi).2 | exact (due_next2 hI (by assumption) (by assumption) (by assumption) (by assumption) hi).2), (by first | assumption | omega | (simp; done) | (simp; omega)), hs19, (by first | assumption | omega | (simp; done) | (simp; omega)), (by first | assumption | omega | (simp; done) | (simp; omega)), (by first | assumption | omega | (simp; done) | (simp; omega)), hs20, hs21, (by (try dsimp only); first | exact (due_next hI (by assumption) (by assumption) hi).1 | exact (due_next2 hI (by assumption) (by assumption) (by assumption) (by assumption) hi).1)⟩ (by (try dsimp only); first | (have q9_ := (due_next hI (by assumption) (by assumption) hi).2; omega) | (have q9_ := (due_next2 hI (by assumption) (by assumption) (by assumption) (by assumption) hi).2; omega))
          ·
            try simp only [decide_eq_true_eq, decide_eq_false_iff_not, Bool.and_eq_true, Bool.or_eq_true, Bool.and_eq_false_imp, Bool.or_eq_false_iff, Bool.not_eq_true', Bool.not_eq_false', Bool.not_eq_true, Bool.not_eq_false, beq_iff_eq, beq_eq_false_iff_ne, bne_iff_ne, ne_eq, Decidable.not_not, Int.not_lt, Int.not_le] at h10
            refine tc_skip ?_
            refine tq_then ?_
            refine tc_seq ?_
            refine tc_region ?_
            refine runL_b [4] [(2, Sl (At b4 o1) more.length c_more), (3, Pt b1 0), (4, Pt b2 0), (7, Pt b3 0), (8, I ((clerkAsk c a).2.1)), (10, I ((i : Int))), (73, .agg #[I kx.queue.most, Sl akx0 kx.queue.wait.length ckx0, I kx.batch, I kx.every, I kx.now, Sl akx1 kx.heads.length ckx1, Sl akx2 kx.books.length ckx2])] ?_
            refine runL_callR 74 (clerkTick_con G5 [I kx.queue.most, Sl akx0 kx.queue.wait.length ckx0, I kx.batch, I kx.every, I kx.now, Sl akx1 kx.heads.length ckx1, Sl akx2 kx.books.length ckx2] kx (⟨akx0, ckx0, akx1, ckx1, akx2, ckx2, rfl, hkx0, (hkx1.mono hl5), hkx2, hkx3, hkx4, (hkx5.mono hl5), (hkx6.mono hl5)⟩)) (fun v G7 L1 hl7 hp => ?_)
            obtain ⟨a22, c22, a23, c23, a24, c24, rfl, w40, hs22, w41, w42, w43, hs23, hs24, rfl⟩ := hp
            refine runL_b [0,0,0,0] [(2, Sl (At b4 o1) more.length c_more), (3, Pt b1 0), (4, Pt b2 0), (7, Pt b3 0), (8, I ((clerkAsk c a).2.1)), (10, I ((i : Int))), (75, .agg #[I (((clerkTick kx).1).queue.most), Sl a22 ((((clerkTick kx).1).queue.wait).length) c22, I (((clerkTick kx).1).batch), I (((clerkTick kx).1).every), I (((clerkTick kx).1).now), Sl a23 ((((clerkTick kx).1).heads).length) c23, Sl a24 ((((clerkTick kx).1).books).length) c24]), (76, Bo ((clerkTick kx).2.1)), (77, I ((clerkTick kx).2.2))] ?_
            refine runL_box 14 #[I 0, Sl none 0 0, I 0, I 0, I 0, Sl none 0 0, Sl none 0 0] 28 (fun b10 => ?_)
            refine runL_bs [3,0,0] [(2, Sl (At b4 o1) more.length c_more), (3, Pt b1 0), (4, Pt b2 0), (7, Pt b3 0), (8, I ((clerkAsk c a).2.1)), (10, I ((i : Int))), (14, Pt b10 0), (16, I ((clerkTick kx).2.2))] [[Sg b10 0 [I (((clerkTick kx).1).queue.most), Sl a22 ((((clerkTick kx).1).queue.wait).length) c22, I (((clerkTick kx).1).batch), I (((clerkTick kx).1).every), I (((clerkTick kx).1).now), Sl a23 ((((clerkTick kx).1).heads).length) c23, Sl a24 ((((clerkTick kx).1).books).length) c24]], [Sg b8 0 [I (((clerkAsk kx x1).1).queue.most), Sl a16 ((((clerkAsk kx x1).1).queue.wait).length) c16, I (((clerkAsk kx x1).1).batch), I (((clerkAsk kx x1).1).every), I (((clerkAsk kx x1).1).now), Sl a17 ((((clerkAsk kx x1).1).heads).length) c17, Sl a18 ((((clerkAsk kx x1).1).books).length) c18]], [Sg b3 0 [I kx.queue.most, Sl akx0 kx.queue.wait.length ckx0, I kx.batch, I kx.every, I kx.now, Sl akx1 kx.heads.length ckx1, Sl akx2 kx.books.length ckx2]], [Sg b2 0 [Sr a.name, Sr a.value, U a.n, U a.tag]], [Sg b1 0 [I c.queue.most, Sl a1 c.queue.wait.length c1, I c.batch, I c.every, I c.now, Sl a2 c.heads.length c2, Sl a3 c.books.length c3]]] ?_
            refine runL_nil ?_
            refine tq_then ?_
            refine tc_seq ?_
            refine tc_rb [0,0] [(2, Sl (At b4 o1) more.length c_more), (3, Pt b1 0), (4, Pt b2 0), (7, Pt b3 0), (8, I ((clerkAsk c a).2.1)), (10, I ((i : Int))), (14, Pt b10 0), (79, Bo (!decide ((clerkTick kx).2.2 = 0)))] ?_
            refine tc_cond (!decide ((clerkTick kx).2.2 = 0)) (fun h13 => ?_) (fun h13 => ?_)
            ·
              try simp only [decide_eq_true_eq, decide_eq_false_iff_not, Bool.and_eq_true, Bool.or_eq_true, Bool.and_eq_false_imp, Bool.or_eq_false_iff, Bool.not_eq_true', Bool.not_eq_false', Bool.not_eq_true, Bool.not_eq_false, beq_iff_eq, beq_eq_false_iff_ne, bne_iff_ne, ne_eq, Decidable.not_not, Int.not_lt, Int.not_le] at h13
              refine tc_rb [0] [(6, Bo false)] ?_
              refine tc_ret ?_
              refine tq_then_ret ?_
              refine tq_block_ret ?_
              refine tq_then_ret ?_
              refine tq_rnd_ret ?_
              refine tq_block_ret ?_
              refine tq_then_ret ?_
              refine tq_ret [0] [Bo false] (bp_ret (Mem.le_trans (Mem.le_trans (Mem.le_trans hl1 hle) hl5) hl7) ?_)
              exfalso
              first | rfl | (obtain ⟨q1_, q2_⟩ := clerkAsk_err (by assumption); rw [q1_, q2_]; rfl) | (have q_ := clerkAsk_err (by assumption); simp_all [clerkZ]; done) | (have q_ := due_start (c := c) (a := a) more (by assumption); obtain ⟨q1_, q2_, q3_, q4_⟩ := q_; have q5_ := (clerkAsk_ok (c := c) (a := a) (by assumption)).1.now; simp; omega) | (exact absurd (due_tk hI) (by assumption)) | (exact absurd (due_tk2 hI (by assumption) (by assumption)) (by assumption)) | exact due_fin hI (by omega) hK (by omega)
            ·
              try simp only [decide_eq_true_eq, decide_eq_false_iff_not, Bool.and_eq_true, Bool.or_eq_true, Bool.and_eq_false_imp, Bool.or_eq_false_iff, Bool.not_eq_true', Bool.not_eq_false', Bool.not_eq_true, Bool.not_eq_false, beq_iff_eq, beq_eq_false_iff_ne, bne_iff_ne, ne_eq, Decidable.not_not, Int.not_lt, Int.not_le] at h13
              refine tc_skip ?_
              refine tq_then ?_
              refine tc_seq ?_
              refine tc_rb [0,2,0,6,0] [(2, Sl (At b4 o1) more.length c_more), (3, Pt b1 0), (4, Pt b2 0), (7, Pt b3 0), (8, I ((clerkAsk c a).2.1)), (10, I ((i : Int))), (14, Pt b10 0), (84, Bo (decide (((clerkTick kx).1).now = kx.now)))] ?_
              refine tc_cond (decide (((clerkTick kx).1).now = kx.now)) (fun h14 => ?_) (fun h14 => ?_)
              ·
                try simp only [decide_eq_true_eq, decide_eq_false_iff_not, Bool.and_eq_true, Bool.or_eq_true, Bool.and_eq_false_imp, Bool.or_eq_false_iff, Bool.not_eq_true', Bool.not_eq_false', Bool.not_eq_true, Bool.not_eq_false, beq_iff_eq, beq_eq_false_iff_ne, bne_iff_ne, ne_eq, Decidable.not_not, Int.not_lt, Int.not_le] at h14
                refine tc_rb [0] [(6, Bo true)] ?_
                refine tc_ret ?_
                refine tq_then_ret ?_
                refine tq_block_ret ?_
                refine tq_then_ret ?_
                refine tq_rnd_ret ?_
                refine tq_block_ret ?_
                refine tq_then_ret ?_
                refine tq_ret [0] [Bo true] (bp_ret (Mem.le_trans (Mem.le_trans (Mem.le_trans hl1 hle) hl5) hl7) ?_)
                rfl
              ·
                try simp only [decide_eq_true_eq, decide_eq_false_iff_not, Bool.and_eq_true, Bool.or_eq_true, Bool.and_eq_false_imp, Bool.or_eq_false_iff, Bool.not_eq_true', Bool.not_eq_false', Bool.not_eq_true, Bool.not_eq_false, beq_iff_eq, beq_eq_false_iff_ne, bne_iff_ne, ne_eq, Decidable.not_not, Int.not_lt, Int.not_le] at h14
                refine tc_skip ?_
                refine tq_then ?_
                refine tc_region ?_
                refine runL_bs [2,7] [(2, Sl (At b4 o1) more.length c_more), (3, Pt b1 0), (4, Pt b2 0), (7, Pt b3 0), (8, I ((clerkAsk c a).2.1)), (10, I ((i : Int)))] [[Sg b10 0 [I (((clerkTick kx).1).queue.most), Sl a22 ((((clerkTick kx).1).queue.wait).length) c22, I (((clerkTick kx).1).batch), I (((clerkTick kx).1).every), I (((clerkTick kx).1).now), Sl a23 ((((clerkTick kx).1).heads).length) c23, Sl a24 ((((clerkTick kx).1).books).length) c24]], [Sg b8 0 [I (((clerkAsk kx x1).1).queue.most), Sl a16 ((((clerkAsk kx x1).1).queue.wait).length) c16, I (((clerkAsk kx x1).1).batch), I (((clerkAsk kx x1).1).every), I (((clerkAsk kx x1).1).now), Sl a17 ((((clerkAsk kx x1).1).heads).length) c17, Sl a18 ((((clerkAsk kx x1).1).books).length) c18]], [Sg b3 0 [I (((clerkTick kx).1).queue.most), Sl a22 ((((clerkTick kx).1).queue.wait).length) c22, I (((clerkTick kx).1).batch), I (((clerkTick kx).1).every), I (((clerkTick kx).1).now), Sl a23 ((((clerkTick kx).1).heads).length) c23, Sl a24 ((((clerkTick kx).1).books).length) c24]], [Sg b2 0 [Sr a.name, Sr a.value, U a.n, U a.tag]], [Sg b1 0 [I c.queue.most, Sl a1 c.queue.wait.length c1, I c.batch, I c.every, I c.now, Sl a2 c.heads.length c2, Sl a3 c.books.length c3]]] ?_
                refine runL_nil ?_
                refine tq_block ?_
                refine tq_then ?_
                refine tc_region ?_
                refine runL_b [0,0,0] [(2, Sl (At b4 o1) more.length c_more), (3, Pt b1 0), (4, Pt b2 0), (7, Pt b3 0), (8, I ((clerkAsk c a).2.1)), (10, I (IntKind.i64.wrap (((i : Int)) + 1)))] ?_
                have e5 : IntKind.i64.wrap (((i : Int)) + 1) = ((i : Int)) + 1 := IntWalk.i64_in _ (by first | omega | (have q_ := due_start (c := c) (a := a) more (by assumption); obtain ⟨q1_, q2_, q3_, q4_⟩ := q_; have q5_ := (clerkAsk_ok (c := c) (a := a) (by assumption)).1.now; omega) | (have q7_ := due_len hI; omega) | (have q_ := due_start (c := c) (a := a) more (by assumption); obtain ⟨q1_, q2_, q3_, q4_⟩ := q_; have q5_ := (clerkAsk_ok (c := c) (a := a) (by assumption)).1.now; have q7_ := due_len hI; omega))
                refine runL_eq (fr' := [(2, Sl (At b4 o1) more.length c_more), (3, Pt b1 0), (4, Pt b2 0), (7, Pt b3 0), (8, I ((clerkAsk c a).2.1)), (10, I (((i : Int)) + 1))]) (L' := [[Sg b10 0 [I (((clerkTick kx).1).queue.most), Sl a22 ((((clerkTick kx).1).queue.wait).length) c22, I (((clerkTick kx).1).batch), I (((clerkTick kx).1).every), I (((clerkTick kx).1).now), Sl a23 ((((clerkTick kx).1).heads).length) c23, Sl a24 ((((clerkTick kx).1).books).length) c24]], [Sg b8 0 [I (((clerkAsk kx x1).1).queue.most), Sl a16 ((((clerkAsk kx x1).1).queue.wait).length) c16, I (((clerkAsk kx x1).1).batch), I (((clerkAsk kx x1).1).every), I (((clerkAsk kx x1).1).now), Sl a17 ((((clerkAsk kx x1).1).heads).length) c17, Sl a18 ((((clerkAsk kx x1).1).books).length) c18]], [Sg b3 0 [I (((clerkTick kx).1).queue.most), Sl a22 ((((clerkTick kx).1).queue.wait).length) c22, I (((clerkTick kx).1).batch), I (((clerkTick kx).1).every), I (((clerkTick kx).1).now), Sl a23 ((((clerkTick kx).1).heads).length) c23, Sl a24 ((((clerkTick kx).1).books).length) c24]], [Sg b2 0 [Sr a.name, Sr a.value, U a.n, U a.tag]], [Sg b1 0 [I c.queue.most, Sl a1 c.queue.wait.length c1, I c.batch, I c.every, I c.now, Sl a2 c.heads.length c2, Sl a3 c.books.length c3]]]) (by simp only [e5]) (by rfl) ?_
                clear e5
                refine runL_nil ?_
                refine tq_owns [[Sg b3 0 [I (((clerkTick kx).1).queue.most), Sl a22 ((((clerkTick kx).1).queue.wait).length) c22, I (((clerkTick kx).1).batch), I (((clerkTick kx).1).every), I (((clerkTick kx).1).now), Sl a23 ((((clerkTick kx).1).heads).length) c23, Sl a24 ((((clerkTick kx).1).books).length) c24]], [Sg b2 0 [Sr a.name, Sr a.value, U a.n, U a.tag]], [Sg b1 0 [I c.queue.most, Sl a1 c.queue.wait.length c1, I c.batch, I c.every, I c.now, Sl a2 c.heads.length c2, Sl a3 c.books.length c3]]] ((.cons _ (.cons _ (.cons_cons _ (.cons_cons _ (.cons_cons _ .slnil)))))) ?_
                exact tq_rnd ((i + 1, ((clerkTick kx).1), a22, c22, a23, c23, a24, c24, G7)) ⟨(Mem.le_trans hle (Mem.le_trans hl5 hl7)), (by (try dsimp only); first | exact (due_next hI (by assumption) (by assumption) hi).2 | exact (due_next2 hI (by assumption) (by assumption) (by assumption) (by assumption) hi).2), (by first | assumption | omega | (simp; done) | (simp; omega)), hs22, (by first | assumption | omega | (simp; done) | (simp; omega)), (by first | assumption | omega | (simp; done) | (simp; omega)), (by first | assumption | omega | (simp; done) | (simp; omega)), hs23, hs24, (by (try dsimp only); first | exact (due_next hI (by assumption) (by assumption) hi).1 | exact (due_next2 hI (by assumption) (by assumption) (by assumption) (by assumption) hi).1)⟩ (by (try dsimp only); first | (have q9_ := (due_next hI (by assumption) (by assumption) hi).2; omega) | (have q9_ := (due_next2 hI (by assumption) (by assumption) (by assumption) (by assumption) hi).2; omega))
        ·
          try simp only [decide_eq_true_eq, decide_eq_false_iff_not, Bool.and_eq_true, Bool.or_eq_true, Bool.and_eq_false_imp, Bool.or_eq_false_iff, Bool.not_eq_true', Bool.not_eq_false', Bool.not_eq_true, Bool.not_eq_false, beq_iff_eq, beq_eq_false_iff_ne, bne_iff_ne, ne_eq, Decidable.not_not, Int.not_lt, Int.not_le] at h4
          refine tc_skip ?_
          refine tq_then ?_
          refine tc_seq ?_
          refine tc_region ?_
          refine runL_b [2] [(2, Sl a_more more.length c_more), (3, Pt b1 0), (4, Pt b2 0), (7, Pt b3 0), (8, I ((clerkAsk c a).2.1)), (10, I ((i : Int))), (73, .agg #[I kx.queue.most, Sl akx0 kx.queue.wait.length ckx0, I kx.batch, I kx.every, I kx.now, Sl akx1 kx.heads.length ckx1, Sl akx2 kx.books.length ckx2])] ?_
          refine runL_callR 74 (clerkTick_con g [I kx.queue.most, Sl akx0 kx.queue.wait.length ckx0, I kx.batch, I kx.every, I kx.now, Sl akx1 kx.heads.length ckx1, Sl akx2 kx.books.length ckx2] kx (⟨akx0, ckx0, akx1, ckx1, akx2, ckx2, rfl, hkx0, hkx1, hkx2, hkx3, hkx4, hkx5, hkx6⟩)) (fun v G8 L1 hl8 hp => ?_)
          obtain ⟨a25, c25, a26, c26, a27, c27, rfl, w44, hs25, w45, w46, w47, hs26, hs27, rfl⟩ := hp
          refine runL_b [0,0,0,0] [(2, Sl a_more more.length c_more), (3, Pt b1 0), (4, Pt b2 0), (7, Pt b3 0), (8, I ((clerkAsk c a).2.1)), (10, I ((i : Int))), (75, .agg #[I (((clerkTick kx).1).queue.most), Sl a25 ((((clerkTick kx).1).queue.wait).length) c25, I (((clerkTick kx).1).batch), I (((clerkTick kx).1).every), I (((clerkTick kx).1).now), Sl a26 ((((clerkTick kx).1).heads).length) c26, Sl a27 ((((clerkTick kx).1).books).length) c27]), (76, Bo ((clerkTick kx).2.1)), (77, I ((clerkTick kx).2.2))] ?_
          refine runL_box 14 #[I 0, Sl none 0 0, I 0, I 0, I 0, Sl none 0 0, Sl none 0 0] 28 (fun b11 => ?_)
          refine runL_bs [3,0,0] [(2, Sl a_more more.length c_more), (3, Pt b1 0), (4, Pt b2 0), (7, Pt b3 0), (8, I ((clerkAsk c a).2.1)), (10, I ((i : Int))), (14, Pt b11 0), (16, I ((clerkTick kx).2.2))] [[Sg b11 0 [I (((clerkTick kx).1).queue.most), Sl a25 ((((clerkTick kx).1).queue.wait).length) c25, I (((clerkTick kx).1).batch), I (((clerkTick kx).1).every), I (((clerkTick kx).1).now), Sl a26 ((((clerkTick kx).1).heads).length) c26, Sl a27 ((((clerkTick kx).1).books).length) c27]], [Sg b3 0 [I kx.queue.most, Sl akx0 kx.queue.wait.length ckx0, I kx.batch, I kx.every, I kx.now, Sl akx1 kx.heads.length ckx1, Sl akx2 kx.books.length ckx2]], [Sg b2 0 [Sr a.name, Sr a.value, U a.n, U a.tag]], [Sg b1 0 [I c.queue.most, Sl a1 c.queue.wait.length c1, I c.batch, I c.every, I c.now, Sl a2 c.heads.length c2, Sl a3 c.books.length c3]]] ?_
          refine runL_nil ?_
          refine tq_then ?_
          refine tc_seq ?_
          refine tc_rb [0,0] [(2, Sl a_more more.length c_more), (3, Pt b1 0), (4, Pt b2 0), (7, Pt b3 0), (8, I ((clerkAsk c a).2.1)), (10, I ((i : Int))), (14, Pt b11 0), (79, Bo (!decide ((clerkTick kx).2.2 = 0)))] ?_
          refine tc_cond (!decide ((clerkTick kx).2.2 = 0)) (fun h15 => ?_) (fun h15 => ?_)
          ·
            try simp only [decide_eq_true_eq, decide_eq_false_iff_not, Bool.and_eq_true, Bool.or_eq_true, Bool.and_eq_false_imp, Bool.or_eq_false_iff, Bool.not_eq_true', Bool.not_eq_false', Bool.not_eq_true, Bool.not_eq_false, beq_iff_eq, beq_eq_false_iff_ne, bne_iff_ne, ne_eq, Decidable.not_not, Int.not_lt, Int.not_le] at h15
            refine tc_rb [0] [(6, Bo false)] ?_
            refine tc_ret ?_
            refine tq_then_ret ?_
            refine tq_block_ret ?_
            refine tq_then_ret ?_
            refine tq_rnd_ret ?_
            refine tq_block_ret ?_
            refine tq_then_ret ?_
            refine tq_ret [0] [Bo false] (bp_ret (Mem.le_trans (Mem.le_trans hl1 hle) hl8) ?_)
            exfalso
            first | rfl | (obtain ⟨q1_, q2_⟩ := clerkAsk_err (by assumption); rw [q1_, q2_]; rfl) | (have q_ := clerkAsk_err (by assumption); simp_all [clerkZ]; done) | (have q_ := due_start (c := c) (a := a) more (by assumption); obtain ⟨q1_, q2_, q3_, q4_⟩ := q_; have q5_ := (clerkAsk_ok (c := c) (a := a) (by assumption)).1.now; simp; omega) | (exact absurd (due_tk hI) (by assumption)) | (exact absurd (due_tk2 hI (by assumption) (by assumption)) (by assumption)) | exact due_fin hI (by omega) hK (by omega)
          ·
            try simp only [decide_eq_true_eq, decide_eq_false_iff_not, Bool.and_eq_true, Bool.or_eq_true, Bool.and_eq_false_imp, Bool.or_eq_false_iff, Bool.not_eq_true', Bool.not_eq_false', Bool.not_eq_true, Bool.not_eq_false, beq_iff_eq, beq_eq_false_iff_ne, bne_iff_ne, ne_eq, Decidable.not_not, Int.not_lt, Int.not_le] at h15
            refine tc_skip ?_
            refine tq_then ?_
            refine tc_seq ?_
            refine tc_rb [0,2,0,4,0] [(2, Sl a_more more.length c_more), (3, Pt b1 0), (4, Pt b2 0), (7, Pt b3 0), (8, I ((clerkAsk c a).2.1)), (10, I ((i : Int))), (14, Pt b11 0), (84, Bo (decide (((clerkTick kx).1).now = kx.now)))] ?_
            refine tc_cond (decide (((clerkTick kx).1).now = kx.now)) (fun h16 => ?_) (fun h16 => ?_)
            ·
              try simp only [decide_eq_true_eq, decide_eq_false_iff_not, Bool.and_eq_true, Bool.or_eq_true, Bool.and_eq_false_imp, Bool.or_eq_false_iff, Bool.not_eq_true', Bool.not_eq_false', Bool.not_eq_true, Bool.not_eq_false, beq_iff_eq, beq_eq_false_iff_ne, bne_iff_ne, ne_eq, Decidable.not_not, Int.not_lt, Int.not_le] at h16
              refine tc_rb [0] [(6, Bo true)] ?_
              refine tc_ret ?_
              refine tq_then_ret ?_
              refine tq_block_ret ?_
              refine tq_then_ret ?_
              refine tq_rnd_ret ?_
              refine tq_block_ret ?_
              refine tq_then_ret ?_
              refine tq_ret [0] [Bo true] (bp_ret (Mem.le_trans (Mem.le_trans hl1 hle) hl8) ?_)
              rfl
            ·
              try simp only [decide_eq_true_eq, decide_eq_false_iff_not, Bool.and_eq_true, Bool.or_eq_true, Bool.and_eq_false_imp, Bool.or_eq_false_iff, Bool.not_eq_true', Bool.not_eq_false', Bool.not_eq_true, Bool.not_eq_false, beq_iff_eq, beq_eq_false_iff_ne, bne_iff_ne, ne_eq, Decidable.not_not, Int.not_lt, Int.not_le] at h16
              refine tc_skip ?_
              refine tq_then ?_
              refine tc_region ?_
              refine runL_bs [2,5] [(2, Sl a_more more.length c_more), (3, Pt b1 0), (4, Pt b2 0), (7, Pt b3 0), (8, I ((clerkAsk c a).2.1)), (10, I ((i : Int)))] [[Sg b11 0 [I (((clerkTick kx).1).queue.most), Sl a25 ((((clerkTick kx).1).queue.wait).length) c25, I (((clerkTick kx).1).batch), I (((clerkTick kx).1).every), I (((clerkTick kx).1).now), Sl a26 ((((clerkTick kx).1).heads).length) c26, Sl a27 ((((clerkTick kx).1).books).length) c27]], [Sg b3 0 [I (((clerkTick kx).1).queue.most), Sl a25 ((((clerkTick kx).1).queue.wait).length) c25, I (((clerkTick kx).1).batch), I (((clerkTick kx).1).every), I (((clerkTick kx).1).now), Sl a26 ((((clerkTick kx).1).heads).length) c26, Sl a27 ((((clerkTick kx).1).books).length) c27]], [Sg b2 0 [Sr a.name, Sr a.value, U a.n, U a.tag]], [Sg b1 0 [I c.queue.most, Sl a1 c.queue.wait.length c1, I c.batch, I c.every, I c.now, Sl a2 c.heads.length c2, Sl a3 c.books.length c3]]] ?_
              refine runL_nil ?_
              refine tq_block ?_
              refine tq_then ?_
              refine tc_region ?_
              refine runL_b [0,0,0] [(2, Sl a_more more.length c_more), (3, Pt b1 0), (4, Pt b2 0), (7, Pt b3 0), (8, I ((clerkAsk c a).2.1)), (10, I (IntKind.i64.wrap (((i : Int)) + 1)))] ?_
              have e6 : IntKind.i64.wrap (((i : Int)) + 1) = ((i : Int)) + 1 := IntWalk.i64_in _ (by first | omega | (have q_ := due_start (c := c) (a := a) more (by assumption); obtain ⟨q1_, q2_, q3_, q4_⟩ := q_; have q5_ := (clerkAsk_ok (c := c) (a := a) (by assumption)).1.now; omega) | (have q7_ := due_len hI; omega) | (have q_ := due_start (c := c) (a := a) more (by assumption); obtain ⟨q1_, q2_, q3_, q4_⟩ := q_; have q5_ := (clerkAsk_ok (c := c) (a := a) (by assumption)).1.now; have q7_ := due_len hI; omega))
              refine runL_eq (fr' := [(2, Sl a_more more.length c_more), (3, Pt b1 0), (4, Pt b2 0), (7, Pt b3 0), (8, I ((clerkAsk c a).2.1)), (10, I (((i : Int)) + 1))]) (L' := [[Sg b11 0 [I (((clerkTick kx).1).queue.most), Sl a25 ((((clerkTick kx).1).queue.wait).length) c25, I (((clerkTick kx).1).batch), I (((clerkTick kx).1).every), I (((clerkTick kx).1).now), Sl a26 ((((clerkTick kx).1).heads).length) c26, Sl a27 ((((clerkTick kx).1).books).length) c27]], [Sg b3 0 [I (((clerkTick kx).1).queue.most), Sl a25 ((((clerkTick kx).1).queue.wait).length) c25, I (((clerkTick kx).1).batch), I (((clerkTick kx).1).every), I (((clerkTick kx).1).now), Sl a26 ((((clerkTick kx).1).heads).length) c26, Sl a27 ((((clerkTick kx).1).books).length) c27]], [Sg b2 0 [Sr a.name, Sr a.value, U a.n, U a.tag]], [Sg b1 0 [I c.queue.most, Sl a1 c.queue.wait.length c1, I c.batch, I c.every, I c.now, Sl a2 c.heads.length c2, Sl a3 c.books.length c3]]]) (by simp only [e6]) (by rfl) ?_
              clear e6
              refine runL_nil ?_
              refine tq_owns [[Sg b3 0 [I (((clerkTick kx).1).queue.most), Sl a25 ((((clerkTick kx).1).queue.wait).length) c25, I (((clerkTick kx).1).batch), I (((clerkTick kx).1).every), I (((clerkTick kx).1).now), Sl a26 ((((clerkTick kx).1).heads).length) c26, Sl a27 ((((clerkTick kx).1).books).length) c27]], [Sg b2 0 [Sr a.name, Sr a.value, U a.n, U a.tag]], [Sg b1 0 [I c.queue.most, Sl a1 c.queue.wait.length c1, I c.batch, I c.every, I c.now, Sl a2 c.heads.length c2, Sl a3 c.books.length c3]]] ((.cons _ (.cons_cons _ (.cons_cons _ (.cons_cons _ .slnil))))) ?_
              exact tq_rnd ((i + 1, ((clerkTick kx).1), a25, c25, a26, c26, a27, c27, G8)) ⟨(Mem.le_trans hle hl8), (by (try dsimp only); first | exact (due_next hI (by assumption) (by assumption) hi).2 | exact (due_next2 hI (by assumption) (by assumption) (by assumption) (by assumption) hi).2), (by first | assumption | omega | (simp; done) | (simp; omega)), hs25, (by first | assumption | omega | (simp; done) | (simp; omega)), (by first | assumption | omega | (simp; done) | (simp; omega)), (by first | assumption | omega | (simp; done) | (simp; omega)), hs26, hs27, (by (try dsimp only); first | exact (due_next hI (by assumption) (by assumption) hi).1 | exact (due_next2 hI (by assumption) (by assumption) (by assumption) (by assumption) hi).1)⟩ (by (try dsimp only); first | (have q9_ := (due_next hI (by assumption) (by assumption) hi).2; omega) | (have q9_ := (due_next2 hI (by assumption) (by assumption) (by assumption) (by assumption) hi).2; omega))
      ·
        try simp only [decide_eq_true_eq, decide_eq_false_iff_not, Bool.and_eq_true, Bool.or_eq_true, Bool.and_eq_false_imp, Bool.or_eq_false_iff, Bool.not_eq_true', Bool.not_eq_false', Bool.not_eq_true, Bool.not_eq_false, beq_iff_eq, beq_eq_false_iff_ne, bne_iff_ne, ne_eq, Decidable.not_not, Int.not_lt, Int.not_le] at h3
        refine tc_exit ?_
        refine tq_then_exit ?_
        refine tq_rnd_exit ?_
        refine tq_block_here ?_
        refine tq_then ?_
        refine tc_seq ?_
        refine tc_rb [0,6,0,0] [(2, Sl a_more more.length c_more), (3, Pt b1 0), (4, Pt b2 0), (7, Pt b3 0), (8, I ((clerkAsk c a).2.1)), (17, I (((c.books.length : Nat) : Int)))] ?_
        refine tc_block ?_
        have hlm_h_more : more.length ≤ 9223372036854775807 := Nat.le_trans (h_more).le (h_more).max
        refine tc_loop (σ := Nat × Mem) (fun q_ => (Mem.le g q_.2) ∧ (c.books.length ≤ q_.1 ∧ q_.1 ≤ kx.books.length) ∧ (∀ j, c.books.length ≤ j → j < q_.1 → ¬ DueHit kx a (clerkAsk c a).2.1 j)) (fun q_ => [(2, Sl a_more more.length c_more), (3, Pt b1 0), (4, Pt b2 0), (7, Pt b3 0), (8, I ((clerkAsk c a).2.1)), (17, I ((q_.1 : Int)))]) (fun q_ => q_.2) (fun q_ => [[Sg b3 0 [I kx.queue.most, Sl akx0 kx.queue.wait.length ckx0, I kx.batch, I kx.every, I kx.now, Sl akx1 kx.heads.length ckx1, Sl akx2 kx.books.length ckx2]], [Sg b2 0 [Sr a.name, Sr a.value, U a.n, U a.tag]], [Sg b1 0 [I c.queue.most, Sl a1 c.queue.wait.length c1, I c.batch, I c.every, I c.now, Sl a2 c.heads.length c2, Sl a3 c.books.length c3]]]) (fun q_ => kx.books.length - q_.1) ((c.books.length, g)) ⟨(Mem.le_refl _), ⟨Nat.le_refl _, (due_len hI).1⟩, (fun j h1 h2 => by omega)⟩ (fun q_ hs => ?_)
        obtain ⟨k, g1_⟩ := q_
        obtain ⟨hle1_, hk, hK⟩ := hs
        dsimp only at hle1_ hk hK
        refine tc_eq (fr' := [(2, Sl a_more more.length c_more), (3, Pt b1 0), (4, Pt b2 0), (7, Pt b3 0), (8, I ((clerkAsk c a).2.1)), (17, I ((k : Int)))]) (L' := [[Sg b3 0 [I kx.queue.most, Sl akx0 kx.queue.wait.length ckx0, I kx.batch, I kx.every, I kx.now, Sl akx1 kx.heads.length ckx1, Sl akx2 kx.books.length ckx2]], [Sg b2 0 [Sr a.name, Sr a.value, U a.n, U a.tag]], [Sg b1 0 [I c.queue.most, Sl a1 c.queue.wait.length c1, I c.batch, I c.every, I c.now, Sl a2 c.heads.length c2, Sl a3 c.books.length c3]]]) rfl rfl ?_
        refine tc_seq ?_
        refine tc_rb [0,0,2,0,0] [(2, Sl a_more more.length c_more), (3, Pt b1 0), (4, Pt b2 0), (7, Pt b3 0), (8, I ((clerkAsk c a).2.1)), (17, I ((k : Int))), (93, Bo (decide ((k : Int) < ((kx.books.length : Nat) : Int))))] ?_
        refine tc_cond (decide ((k : Int) < ((kx.books.length : Nat) : Int))) (fun h17 => ?_) (fun h17 => ?_)
        ·
          try simp only [decide_eq_true_eq, decide_eq_false_iff_not, Bool.and_eq_true, Bool.or_eq_true, Bool.and_eq_false_imp, Bool.or_eq_false_iff, Bool.not_eq_true', Bool.not_eq_false', Bool.not_eq_true, Bool.not_eq_false, beq_iff_eq, beq_eq_false_iff_ne, bne_iff_ne, ne_eq, Decidable.not_not, Int.not_lt, Int.not_le] at h17
          refine tc_skip ?_
          refine tq_then ?_
          refine tc_seq ?_
          refine tc_block ?_
          refine tc_seq ?_
          obtain ⟨b12, o2, rfl⟩ := RS.addr (hkx6.mono hle1_) (k := k) (by first | omega | (have q_ := due_start (c := c) (a := a) more (by assumption); obtain ⟨q1_, q2_, q3_, q4_⟩ := q_; have q5_ := (clerkAsk_ok (c := c) (a := a) (by assumption)).1.now; omega) | (have q7_ := due_len hI; omega) | (have q_ := due_start (c := c) (a := a) more (by assumption); obtain ⟨q1_, q2_, q3_, q4_⟩ := q_; have q5_ := (clerkAsk_ok (c := c) (a := a) (by assumption)).1.now; have q7_ := due_len hI; omega))
          obtain ⟨x2, hx2⟩ := getX (l := kx.books) (k := k) (by first | omega | (have q_ := due_start (c := c) (a := a) more (by assumption); obtain ⟨q1_, q2_, q3_, q4_⟩ := q_; have q5_ := (clerkAsk_ok (c := c) (a := a) (by assumption)).1.now; omega) | (have q7_ := due_len hI; omega) | (have q_ := due_start (c := c) (a := a) more (by assumption); obtain ⟨q1_, q2_, q3_, q4_⟩ := q_; have q5_ := (clerkAsk_ok (c := c) (a := a) (by assumption)).1.now; have q7_ := due_len hI; omega))
          obtain ⟨_, ⟨a28, c28, rfl, hs28⟩, hc2⟩ := RS.get (hkx6.mono hle1_) hx2
          refine tc_draw [7] ?_
          refine dr_V [(0, Pt b3 6), (1, Sl (At b12 o2) kx.books.length ckx2), (2, I ((k : Int))), (3, Pt b12 (o2 + k * 1)), (4, Sl a28 x2.length c28), (5, Pt b2 0), (6, Sr a.name)] ?_
          refine dr_mid [] [(0,0), (1,2), (2,0), (5,0), (6,4)] [3, 4] [7] (List.forall_mem_cons.2 ⟨?_, (List.forall_mem_cons.2 ⟨?_, List.forall_mem_nil _⟩)⟩) (List.forall_mem_cons.2 ⟨?_, List.forall_mem_nil _⟩)
          · refine stab_of 3 100 (Pt b12 (o2 + k * 1)) [(98, Sl (At b12 o2) kx.books.length ckx2), (99, I ((k : Int)))] (fun X => ?_)
            exact runL_idx (b := b12) (off := o2) (len := kx.books.length) (cap := ckx2) (ik := .i64) 100 33 1 k (by first | omega | (have q_ := due_start (c := c) (a := a) more (by assumption); obtain ⟨q1_, q2_, q3_, q4_⟩ := q_; have q5_ := (clerkAsk_ok (c := c) (a := a) (by assumption)).1.now; omega) | (have q7_ := due_len hI; omega) | (have q_ := due_start (c := c) (a := a) more (by assumption); obtain ⟨q1_, q2_, q3_, q4_⟩ := q_; have q5_ := (clerkAsk_ok (c := c) (a := a) (by assumption)).1.now; have q7_ := due_len hI; omega)) stab_end
          · refine stab_of 4 101 (Sl a28 x2.length c28) [(100, Pt b12 (o2 + k * 1))] (fun X => ?_)
            exact runL_ldG 101 33 (cs := [Sl a28 x2.length c28]) 0 (Sl a28 x2.length c28) hc2 stab_end
          refine act_of 7 [(101, Sl a28 x2.length c28), (103, Sr a.name)] (fun X => ?_)
          refine runL_callR 104 (treeGet_con g1_ a28 c28 x2 hs28 a.name (by first | assumption | omega | (simp; done) | (simp; omega))) (fun v G9 L1 hl9 hp => ?_)
          obtain ⟨rfl, w48, rfl⟩ := hp
          refine act_end (V' := [(0, Pt b3 6), (1, Sl (At b12 o2) kx.books.length ckx2), (2, I ((k : Int))), (3, Pt b12 (o2 + k * 1)), (4, Sl a28 x2.length c28), (5, Pt b2 0), (6, Sr a.name), (7, .tuple #[Sr ((treeGet x2 a.name).1), Bo ((treeGet x2 a.name).2.1), I ((treeGet x2 a.name).2.2)]), (8, .tuple #[Sr ((treeGet x2 a.name).1), Bo ((treeGet x2 a.name).2.1), I ((treeGet x2 a.name).2.2)]), (9, Sr ((treeGet x2 a.name).1)), (10, Bo ((treeGet x2 a.name).2.1)), (11, I ((treeGet x2 a.name).2.2)), (12, Sr ((treeGet x2 a.name).1)), (13, Bo ((treeGet x2 a.name).2.1)), (14, I ((treeGet x2 a.name).2.2))]) ?_
          refine dr_end [0, 1, 2, 3, 4, 5, 6] [(8,0), (9,0), (10,0), (11,0), (12,0), (13,0), (14,0)] [] [(2, Sl a_more more.length c_more), (3, Pt b1 0), (4, Pt b2 0), (7, Pt b3 0), (8, I ((clerkAsk c a).2.1)), (17, I ((k : Int))), (18, Sr ((treeGet x2 a.name).1)), (19, Bo ((treeGet x2 a.name).2.1)), (20, I ((treeGet x2 a.name).2.2))] (List.forall_mem_nil _) ?_
          refine tq_then ?_
          refine tc_seq ?_
          refine tc_region ?_
          refine runL_b [0,0,0] [(2, Sl a_more more.length c_more), (3, Pt b1 0), (4, Pt b2 0), (7, Pt b3 0), (8, I ((clerkAsk c a).2.1)), (17, I ((k : Int))), (18, Sr ((treeGet x2 a.name).1)), (19, Bo ((treeGet x2 a.name).2.1)), (110, Bo (decide ((treeGet x2 a.name).2.2 = 0)))] ?_
          refine runL_b2 (decide ((treeGet x2 a.name).2.2 = 0)) (fun bb => [(2, Sl a_more more.length c_more), (3, Pt b1 0), (4, Pt b2 0), (7, Pt b3 0), (8, I ((clerkAsk c a).2.1)), (17, I ((k : Int))), (18, Sr ((treeGet x2 a.name).1)), (19, Bo ((treeGet x2 a.name).2.1)), (110, Bo bb)]) [0,0] [1,0] (fun bb => [(2, Sl a_more more.length c_more), (3, Pt b1 0), (4, Pt b2 0), (7, Pt b3 0), (8, I ((clerkAsk c a).2.1)), (17, I ((k : Int))), (18, Sr ((treeGet x2 a.name).1)), (112, Bo (bb && ((treeGet x2 a.name).2.1)))]) ?_
          refine runL_b [0] [(2, Sl a_more more.length c_more), (3, Pt b1 0), (4, Pt b2 0), (7, Pt b3 0), (8, I ((clerkAsk c a).2.1)), (17, I ((k : Int))), (18, Sr ((treeGet x2 a.name).1)), (113, Bo ((decide ((treeGet x2 a.name).2.2 = 0)) && ((treeGet x2 a.name).2.1)))] ?_
          refine runL_b2 ((decide ((treeGet x2 a.name).2.2 = 0)) && ((treeGet x2 a.name).2.1)) (fun bb => [(2, Sl a_more more.length c_more), (3, Pt b1 0), (4, Pt b2 0), (7, Pt b3 0), (8, I ((clerkAsk c a).2.1)), (17, I ((k : Int))), (18, Sr ((treeGet x2 a.name).1)), (113, Bo bb)]) [0,0,4,0,0] [1,1,1,1,0] (fun bb => [(2, Sl a_more more.length c_more), (3, Pt b1 0), (4, Pt b2 0), (7, Pt b3 0), (8, I ((clerkAsk c a).2.1)), (17, I ((k : Int))), (118, Bo (bb && (((B ((treeGet x2 a.name).1)).toList == (B a.value).toList))))]) ?_
          refine runL_eq (fr' := [(2, Sl a_more more.length c_more), (3, Pt b1 0), (4, Pt b2 0), (7, Pt b3 0), (8, I ((clerkAsk c a).2.1)), (17, I ((k : Int))), (118, Bo (((decide ((treeGet x2 a.name).2.2 = 0)) && ((treeGet x2 a.name).2.1)) && (((treeGet x2 a.name).1 == a.value))))]) (L' := [[Sg b3 0 [I kx.queue.most, Sl akx0 kx.queue.wait.length ckx0, I kx.batch, I kx.every, I kx.now, Sl akx1 kx.heads.length ckx1, Sl (At b12 o2) kx.books.length ckx2]], [Sg b2 0 [Sr a.name, Sr a.value, U a.n, U a.tag]], [Sg b1 0 [I c.queue.most, Sl a1 c.queue.wait.length c1, I c.batch, I c.every, I c.now, Sl a2 c.heads.length c2, Sl a3 c.books.length c3]]]) (by simp only [B_toList]) (by rfl) ?_
          refine runL_b [0] [(2, Sl a_more more.length c_more), (3, Pt b1 0), (4, Pt b2 0), (7, Pt b3 0), (8, I ((clerkAsk c a).2.1)), (17, I ((k : Int))), (119, Bo (((decide ((treeGet x2 a.name).2.2 = 0)) && ((treeGet x2 a.name).2.1)) && (((treeGet x2 a.name).1 == a.value))))] ?_
          refine runL_cases (fun bb => [(2, Sl a_more more.length c_more), (3, Pt b1 0), (4, Pt b2 0), (7, Pt b3 0), (8, I ((clerkAsk c a).2.1)), (17, I ((k : Int))), (119, Bo bb)]) (((decide ((treeGet x2 a.name).2.2 = 0)) && ((treeGet x2 a.name).2.1)) && (((treeGet x2 a.name).1 == a.value))) (fun h18 => ?_) (fun h18 => ?_)
          ·
            try simp only [decide_eq_true_eq, decide_eq_false_iff_not, Bool.and_eq_true, Bool.or_eq_true, Bool.and_eq_false_imp, Bool.or_eq_false_iff, Bool.not_eq_true', Bool.not_eq_false', Bool.not_eq_true, Bool.not_eq_false, beq_iff_eq, beq_eq_false_iff_ne, bne_iff_ne, ne_eq, Decidable.not_not, Int.not_lt, Int.not_le] at h18
            refine runL_b [0,2,0] [(2, Sl a_more more.length c_more), (3, Pt b1 0), (4, Pt b2 0), (7, Pt b3 0), (8, I ((clerkAsk c a).2.1)), (17, I ((k : Int))), (119, Bo true), (121, Sl akx1 kx.heads.length ckx1), (122, I ((k : Int)))] ?_
            obtain ⟨b13, o3, rfl⟩ := RS.addr (hkx5.mono (Mem.le_trans hle1_ hl9)) (k := k) (by first | omega | (have q_ := due_start (c := c) (a := a) more (by assumption); obtain ⟨q1_, q2_, q3_, q4_⟩ := q_; have q5_ := (clerkAsk_ok (c := c) (a := a) (by assumption)).1.now; omega) | (have q7_ := due_len hI; omega) | (have q_ := due_start (c := c) (a := a) more (by assumption); obtain ⟨q1_, q2_, q3_, q4_⟩ := q_; have q5_ := (clerkAsk_ok (c := c) (a := a) (by assumption)).1.now; have q7_ := due_len hI; omega))
            obtain ⟨x3, hx3⟩ := getX (l := kx.heads) (k := k) (by first | omega | (have q_ := due_start (c := c) (a := a) more (by assumption); obtain ⟨q1_, q2_, q3_, q4_⟩ := q_; have q5_ := (clerkAsk_ok (c := c) (a := a) (by assumption)).1.now; omega) | (have q7_ := due_len hI; omega) | (have q_ := due_start (c := c) (a := a) more (by assumption); obtain ⟨q1_, q2_, q3_, q4_⟩ := q_; have q5_ := (clerkAsk_ok (c := c) (a := a) (by assumption)).1.now; have q7_ := due_len hI; omega))
            obtain ⟨_, ⟨rfl, w49, w50, w51, w52⟩, hc3⟩ := RS.get (hkx5.mono (Mem.le_trans hle1_ hl9)) hx3
            refine runL_idx (b := b13) (off := o3) (len := kx.heads.length) (cap := ckx1) (ik := .i64) 123 32 4 k (by first | omega | (have q_ := due_start (c := c) (a := a) more (by assumption); obtain ⟨q1_, q2_, q3_, q4_⟩ := q_; have q5_ := (clerkAsk_ok (c := c) (a := a) (by assumption)).1.now; omega) | (have q7_ := due_len hI; omega) | (have q_ := due_start (c := c) (a := a) more (by assumption); obtain ⟨q1_, q2_, q3_, q4_⟩ := q_; have q5_ := (clerkAsk_ok (c := c) (a := a) (by assumption)).1.now; have q7_ := due_len hI; omega)) ?_
            refine runL_b [0] [(2, Sl a_more more.length c_more), (3, Pt b1 0), (4, Pt b2 0), (7, Pt b3 0), (8, I ((clerkAsk c a).2.1)), (17, I ((k : Int))), (119, Bo true), (124, Pt b13 (o3 + k * 4 + 3))] ?_
            refine runL_ldG 125 2 (cs := [I x3.epoch, U x3.root, U x3.prev, I x3.at_]) 3 (I x3.at_) hc3 ?_
            refine runL_b [0,0,0] [(2, Sl a_more more.length c_more), (3, Pt b1 0), (4, Pt b2 0), (7, Pt b3 0), (8, I ((clerkAsk c a).2.1)), (17, I ((k : Int))), (128, Bo (decide (x3.at_ ≤ (clerkAsk c a).2.1)))] ?_
            refine runL_nil ?_
            refine tq_then ?_
            refine tc_cond (decide (x3.at_ ≤ (clerkAsk c a).2.1)) (fun h19 => ?_) (fun h19 => ?_)
            ·
              try simp only [decide_eq_true_eq, decide_eq_false_iff_not, Bool.and_eq_true, Bool.or_eq_true, Bool.and_eq_false_imp, Bool.or_eq_false_iff, Bool.not_eq_true', Bool.not_eq_false', Bool.not_eq_true, Bool.not_eq_false, beq_iff_eq, beq_eq_false_iff_ne, bne_iff_ne, ne_eq, Decidable.not_not, Int.not_lt, Int.not_le] at h19
              refine tc_rb [0] [(6, Bo true)] ?_
              refine tc_ret ?_
              refine tq_block_ret ?_
              refine tq_then_ret ?_
              refine tq_rnd_ret ?_
              refine tq_block_ret ?_
              refine tq_then_ret ?_
              refine tq_ret [0] [Bo true] (bp_ret (Mem.le_trans (Mem.le_trans (Mem.le_trans hl1 hle) hle1_) hl9) ?_)
              rfl
            ·
              try simp only [decide_eq_true_eq, decide_eq_false_iff_not, Bool.and_eq_true, Bool.or_eq_true, Bool.and_eq_false_imp, Bool.or_eq_false_iff, Bool.not_eq_true', Bool.not_eq_false', Bool.not_eq_true, Bool.not_eq_false, beq_iff_eq, beq_eq_false_iff_ne, bne_iff_ne, ne_eq, Decidable.not_not, Int.not_lt, Int.not_le] at h19
              refine tc_skip ?_
              refine tq_block ?_
              refine tq_then ?_
              refine tc_region ?_
              refine runL_b [0,0,0] [(2, Sl a_more more.length c_more), (3, Pt b1 0), (4, Pt b2 0), (7, Pt b3 0), (8, I ((clerkAsk c a).2.1)), (17, I (IntKind.i64.wrap (((k : Int)) + 1)))] ?_
              have e7 : IntKind.i64.wrap (((k : Int)) + 1) = ((k : Int)) + 1 := IntWalk.i64_in _ (by first | omega | (have q_ := due_start (c := c) (a := a) more (by assumption); obtain ⟨q1_, q2_, q3_, q4_⟩ := q_; have q5_ := (clerkAsk_ok (c := c) (a := a) (by assumption)).1.now; omega) | (have q7_ := due_len hI; omega) | (have q_ := due_start (c := c) (a := a) more (by assumption); obtain ⟨q1_, q2_, q3_, q4_⟩ := q_; have q5_ := (clerkAsk_ok (c := c) (a := a) (by assumption)).1.now; have q7_ := due_len hI; omega))
              refine runL_eq (fr' := [(2, Sl a_more more.length c_more), (3, Pt b1 0), (4, Pt b2 0), (7, Pt b3 0), (8, I ((clerkAsk c a).2.1)), (17, I (((k : Int)) + 1))]) (L' := [[Sg b3 0 [I kx.queue.most, Sl akx0 kx.queue.wait.length ckx0, I kx.batch, I kx.every, I kx.now, Sl (At b13 o3) kx.heads.length ckx1, Sl (At b12 o2) kx.books.length ckx2]], [Sg b2 0 [Sr a.name, Sr a.value, U a.n, U a.tag]], [Sg b1 0 [I c.queue.most, Sl a1 c.queue.wait.length c1, I c.batch, I c.every, I c.now, Sl a2 c.heads.length c2, Sl a3 c.books.length c3]]]) (by simp only [e7]) (by rfl) ?_
              clear e7
              refine runL_nil ?_
              exact tq_rnd ((k + 1, G9)) ⟨(Mem.le_trans hle1_ hl9), (by (try dsimp only); omega), (by (try dsimp only); exact hit_next hK (by first | exact hit_c (by assumption) (by assumption) | exact hit_a (by assumption) (.inl (by assumption)) | exact hit_a (by assumption) (.inr (.inl (by assumption))) | exact hit_a (by assumption) (.inr (.inr (by assumption))) | exact hit_b (by assumption) (by omega)))⟩ (by (try dsimp only); omega)
          ·
            try simp only [decide_eq_true_eq, decide_eq_false_iff_not, Bool.and_eq_true, Bool.or_eq_true, Bool.and_eq_false_imp, Bool.or_eq_false_iff, Bool.not_eq_true', Bool.not_eq_false', Bool.not_eq_true, Bool.not_eq_false, beq_iff_eq, beq_eq_false_iff_ne, bne_iff_ne, ne_eq, Decidable.not_not, Int.not_lt, Int.not_le] at h18
            refine runL_b [1,1,1,1,1,1,1,1,0] [(2, Sl a_more more.length c_more), (3, Pt b1 0), (4, Pt b2 0), (7, Pt b3 0), (8, I ((clerkAsk c a).2.1)), (17, I ((k : Int))), (128, Bo false)] ?_
            refine runL_nil ?_
            refine tq_then ?_
            refine tc_cond_false ?_
            refine tc_skip ?_
            refine tq_block ?_
            refine tq_then ?_
            refine tc_region ?_
            refine runL_b [0,0,0] [(2, Sl a_more more.length c_more), (3, Pt b1 0), (4, Pt b2 0), (7, Pt b3 0), (8, I ((clerkAsk c a).2.1)), (17, I (IntKind.i64.wrap (((k : Int)) + 1)))] ?_
            have e8 : IntKind.i64.wrap (((k : Int)) + 1) = ((k : Int)) + 1 := IntWalk.i64_in _ (by first | omega | (have q_ := due_start (c := c) (a := a) more (by assumption); obtain ⟨q1_, q2_, q3_, q4_⟩ := q_; have q5_ := (clerkAsk_ok (c := c) (a := a) (by assumption)).1.now; omega) | (have q7_ := due_len hI; omega) | (have q_ := due_start (c := c) (a := a) more (by assumption); obtain ⟨q1_, q2_, q3_, q4_⟩ := q_; have q5_ := (clerkAsk_ok (c := c) (a := a) (by assumption)).1.now; have q7_ := due_len hI; omega))
            refine runL_eq (fr' := [(2, Sl a_more more.length c_more), (3, Pt b1 0), (4, Pt b2 0), (7, Pt b3 0), (8, I ((clerkAsk c a).2.1)), (17, I (((k : Int)) + 1))]) (L' := [[Sg b3 0 [I kx.queue.most, Sl akx0 kx.queue.wait.length ckx0, I kx.batch, I kx.every, I kx.now, Sl akx1 kx.heads.length ckx1, Sl (At b12 o2) kx.books.length ckx2]], [Sg b2 0 [Sr a.name, Sr a.value, U a.n, U a.tag]], [Sg b1 0 [I c.queue.most, Sl a1 c.queue.wait.length c1, I c.batch, I c.every, I c.now, Sl a2 c.heads.length c2, Sl a3 c.books.length c3]]]) (by simp only [e8]) (by rfl) ?_
            clear e8
            refine runL_nil ?_
            exact tq_rnd ((k + 1, G9)) ⟨(Mem.le_trans hle1_ hl9), (by (try dsimp only); omega), (by (try dsimp only); exact hit_next hK (by first | exact hit_c (by assumption) (by assumption) | exact hit_a (by assumption) (.inl (by assumption)) | exact hit_a (by assumption) (.inr (.inl (by assumption))) | exact hit_a (by assumption) (.inr (.inr (by assumption))) | exact hit_b (by assumption) (by omega)))⟩ (by (try dsimp only); omega)
        ·
          try simp only [decide_eq_true_eq, decide_eq_false_iff_not, Bool.and_eq_true, Bool.or_eq_true, Bool.and_eq_false_imp, Bool.or_eq_false_iff, Bool.not_eq_true', Bool.not_eq_false', Bool.not_eq_true, Bool.not_eq_false, beq_iff_eq, beq_eq_false_iff_ne, bne_iff_ne, ne_eq, Decidable.not_not, Int.not_lt, Int.not_le] at h17
          refine tc_exit ?_
          refine tq_then_exit ?_
          refine tq_rnd_exit ?_
          refine tq_block_here ?_
          refine tq_then ?_
          refine tc_seq ?_
          refine tc_region ?_
          refine runL_b [0,0,6] [(2, Sl a_more more.length c_more), (4, Pt b2 0), (131, Sl a1 c.queue.wait.length c1)] ?_
          refine runL_callR 132 (sclone_EAsk g1_ a1 c1 c.queue.wait (hs1.mono (Mem.le_trans (Mem.le_trans hl1 hle) hle1_))) (fun v G10 L1 hl10 hp => ?_)
          obtain ⟨a29, c29, r1, rfl, hr1, rfl⟩ := hp
          refine runL_b [0] [(4, Pt b2 0), (132, Sl a29 c.queue.wait.length c29), (133, Sl a_more more.length c_more)] ?_
          refine runL_app' 134 54 0 (E := EAsk) hr1 (h_more.mono (Mem.le_trans (Mem.le_trans (Mem.le_trans hl1 hle) hle1_) hl10)) (by have q6_ := (queueCheck_iff.1 (clerkAsk_ok (c := c) (a := a) (by assumption)).1.queue); (try simp only [EAsk, List.length_append, List.length_cons, List.length_nil]); omega) (by have q6_ := (queueCheck_iff.1 (clerkAsk_ok (c := c) (a := a) (by assumption)).1.queue); (try simp only [EAsk, List.length_append, List.length_cons, List.length_nil]); omega) (fun a30 c30 r2 hr2 => ?_)
          refine runL_b [0] [(134, Sl a30 ((c.queue.wait ++ more).length) c30), (135, .func (.func 25) #[] #[Pt b2 0])] ?_
          refine runL_frzR (E := EAsk) 0 hr2 (by have q6_ := (queueCheck_iff.1 (clerkAsk_ok (c := c) (a := a) (by assumption)).1.queue); (try simp only [EAsk, List.length_append, List.length_cons, List.length_nil]); omega) (fun G11 hl11 hs29 => ?_)
          refine runL_frz1 (b := b2) (o := 0) (cs := [Sr a.name, Sr a.value, U a.n, U a.tag]) 2 (fun G12 hl12 hz1 => ?_)
          refine runL_callV 136 (Bo ((c.queue.wait ++ more).any ((fun x0 => dueSame x0 a)))) (sany_EAsk G12 a30 c30 (c.queue.wait ++ more) (hs29.mono hl12) 25 #[Pt b2 0] ((fun x0 => dueSame x0 a)) ((fun _ _ => by kernel_rfl)) ((fun vs0 x0 hx0 => by obtain ⟨rfl, w53, w54, w55, w56⟩ := hx0; exact dueSame_con G12 [Sr x0.name, Sr x0.value, U x0.n, U x0.tag] x0 (⟨rfl, w53, w54, w55, w56⟩) [Sr a.name, Sr a.value, U a.n, U a.tag] a (⟨rfl, (by first | assumption | omega | (simp; done) | (simp; omega)), (by first | assumption | omega | (simp; done) | (simp; omega)), (by first | assumption | omega | (simp; done) | (simp; omega)), (by first | assumption | omega | (simp; done) | (simp; omega))⟩) b2 hz1))) ?_
          refine runL_b [0] [(6, Bo ((c.queue.wait ++ more).any ((fun x0 => dueSame x0 a))))] ?_
          refine runL_nil ?_
          refine tq_then ?_
          refine tc_ret ?_
          refine tq_ret [0] [Bo ((c.queue.wait ++ more).any ((fun x0 => dueSame x0 a)))] (bp_ret (Mem.le_trans (Mem.le_trans (Mem.le_trans (Mem.le_trans (Mem.le_trans hl1 hle) hle1_) hl10) hl11) hl12) ?_)
          have hf_ : ((c.queue.wait ++ more).any ((fun x0 => dueSame x0 a))) = true := by
            first | rfl | (obtain ⟨q1_, q2_⟩ := clerkAsk_err (by assumption); rw [q1_, q2_]; rfl) | (have q_ := clerkAsk_err (by assumption); simp_all [clerkZ]; done) | (have q_ := due_start (c := c) (a := a) more (by assumption); obtain ⟨q1_, q2_, q3_, q4_⟩ := q_; have q5_ := (clerkAsk_ok (c := c) (a := a) (by assumption)).1.now; simp; omega) | (exact absurd (due_tk hI) (by assumption)) | (exact absurd (due_tk2 hI (by assumption) (by assumption)) (by assumption)) | exact due_fin hI (by omega) hK (by omega)
          exact congrArg Bo hf_
end Go.Proofs.YtmpakffajpnffaaGreatDoor
