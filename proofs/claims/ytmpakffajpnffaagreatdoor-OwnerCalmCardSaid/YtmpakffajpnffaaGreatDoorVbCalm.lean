import Derived.Test.YtmpakffajpnffaaGreatDoorVbTickD
import Derived.Test.YtmpakffajpnffaaGreatDoorVbLook
namespace Go.Proofs.YtmpakffajpnffaaGreatDoor
open Go.Tx
set_option linter.unusedVariables false
set_option linter.unusedSimpArgs false
open Go.Tx Go.Proofs
def serveHeads (c : ClerkD) (a b : Int) : List HeadD × Int := if ¬ clerkCheck c = 0 then ([], clerkCheck c) else chainPart c.heads a b
def told (w : List (List UInt8)) (j : Nat) : List UInt8 × Bool × Int := if j = 0 then ([], false, 0) else (w[j - 1]?.getD [], true, 0)
structure Calm (name : List UInt8) (c : ClerkD) (o : OwnerD) (J : List Nat) : Prop where
  ok : ClerkOk c
  own : ownerCheck o = 0
  nm : o.name = name
  at_ : 0 ≤ o.head.epoch ∧ c.heads[o.head.epoch.toNat]? = some o.head
  len : J.length = c.books.length
  mono : ∀ (p q : Nat) i j, p ≤ q → J[p]? = some i → J[q]? = some j → i ≤ j
  le : ∀ (p : Nat) j, J[p]? = some j → j ≤ o.wanted.length
  book : ∀ (p : Nat) j b, J[p]? = some j → c.books[p]? = some b → treeGet b name = told o.wanted j
  wait : ∀ j, J[J.length - 1]? = some j → j + c.queue.wait.length = o.wanted.length ∧ ∀ (p : Nat) a, c.queue.wait[p]? = some a → a.name = name ∧ o.wanted[j + p]? = some a.value
  had : ∀ j, J[o.head.epoch.toNat]? = some j → o.had ≤ j
theorem told_app {w : List (List UInt8)} {j : Nat} (h : j ≤ w.length) (v : List (List UInt8)) : told (w ++ v) j = told w j := by
  unfold told
  split
  · rfl
  · rw [List.getElem?_append_left (by omega)]
theorem calm_start {name : List UInt8} {key : Int} (h : (ownerNew name key (firstH (clerkNew 10 2 1).1.heads)).2 = 0) (hk : clerkCheck (clerkNew 10 2 1).1 = 0) (hb : (clerkNew 10 2 1).1.books = [[]]) (hq : (clerkNew 10 2 1).1.queue.wait = []) :
    Calm name (clerkNew 10 2 1).1 (ownerNew name key (firstH (clerkNew 10 2 1).1.heads)).1 [0] := by
  have ok := clerkCheck_iff.1 hk
  unfold ownerNew at h ⊢
  split at h
  · contradiction
  rename_i h1
  rw [if_neg h1]
  have h2 := Decidable.not_not.1 h1
  have hn := (ownerCheck_iff.1 h2).1
  refine ⟨ok, h2, rfl, ⟨by rw [ok.first]; exact Int.le_refl _, by rw [ok.first]; exact ok.chain.first⟩, by rw [hb]; rfl, ?_, ?_, ?_, ?_, ?_⟩
  · intro p q i j hpq hi hj
    have a1 := (List.getElem?_eq_some_iff.1 hi).1; have a2 := (List.getElem?_eq_some_iff.1 hj).1
    simp only [List.length_cons, List.length_nil] at a1 a2
    obtain rfl : p = 0 := by omega
    obtain rfl : q = 0 := by omega
    rw [hi] at hj; cases hj; exact Nat.le_refl _
  · intro p j hj
    have a1 := (List.getElem?_eq_some_iff.1 hj).1
    simp only [List.length_cons, List.length_nil] at a1
    obtain rfl : p = 0 := by omega
    simp at hj; omega
  · intro p j b hj hbk
    have a1 := (List.getElem?_eq_some_iff.1 hj).1
    simp only [List.length_cons, List.length_nil] at a1
    obtain rfl : p = 0 := by omega
    rw [hb] at hbk
    simp at hj hbk
    subst hj hbk
    exact treeGet_no ⟨by simp, by simp, by simp⟩ hn (by simp)
  · intro j hj
    simp at hj
    subst hj
    rw [hq]; simp
  · intro j _; simp
theorem calm_ask {name : List UInt8} {c : ClerkD} {o : OwnerD} {J : List Nat} {s : List UInt8} (h : Calm name c o J) (hw : (ownerWant o s).2.2 = 0) (ha : (clerkAsk c (ownerWant o s).2.1).2.2 = 0) :
    Calm name (clerkAsk c (ownerWant o s).2.1).1 (ownerWant o s).1 J := by
  obtain ⟨w1, w2, w3, w4, w5⟩ := ownerWant_ok hw
  have hok := clerkAsk_right ha
  obtain ⟨_, hq, _, _, e⟩ := clerkAsk_ok ha
  obtain ⟨_, _, _, e2⟩ := queuePut_ok hq
  have hx : (clerkAsk c (ownerWant o s).2.1).1 = ⟨⟨c.queue.most, c.queue.wait ++ [(ownerWant o s).2.1]⟩, c.batch, c.every, c.now, c.heads, c.books⟩ := by rw [e, e2]
  have hn : (ownerWant o s).2.1.name = o.name ∧ (ownerWant o s).2.1.value = s := by rw [w4]; exact ⟨rfl, rfl⟩
  have ho : (ownerWant o s).1 = ⟨o.name, o.key, o.head, o.wanted ++ [s], o.had⟩ := by rw [w4]
  refine ⟨hok, w5.1, ?_, ?_, ?_, h.mono, ?_, ?_, ?_, ?_⟩
  · rw [ho]; exact h.nm
  · rw [ho, hx]; exact h.at_
  · rw [hx]; exact h.len
  · intro p j hj; rw [ho]; have := h.le p j hj; simp; omega
  · intro p j b hj hb
    rw [hx] at hb; rw [ho]
    simp only
    rw [told_app (h.le p j hj)]
    exact h.book p j b hj hb
  · intro j hj
    obtain ⟨q1, q2⟩ := h.wait j hj
    rw [hx, ho]
    simp only
    refine ⟨by simp; omega, fun p a hp => ?_⟩
    by_cases hl : p < c.queue.wait.length
    · rw [List.getElem?_append_left hl] at hp
      obtain ⟨r1, r2⟩ := q2 p a hp
      exact ⟨r1, by rw [List.getElem?_append_left (by omega)]; exact r2⟩
    · rw [List.getElem?_append_right (by omega)] at hp
      have hz : p - c.queue.wait.length = 0 := by have := (List.getElem?_eq_some_iff.1 hp).1; simp at this; omega
      rw [hz] at hp
      simp only [List.getElem?_cons_zero, Option.some.injEq] at hp
      subst hp
      refine ⟨by rw [hn.1]; exact h.nm, ?_⟩
      rw [List.getElem?_append_right (by omega), show j + p - o.wanted.length = 0 by omega, hn.2]; rfl
  · rw [ho]; exact h.had
theorem setAll_one : ∀ (l : List AskD) (b : List EntD) (name : List UInt8), TreeOk b → (∀ a ∈ l, queueRight a = 0) → nn (entNames b ++ askNames l) ≤ 24 → (∀ a ∈ l, a.name = name) →
    treeGet (setAll b l) name = match l.getLast? with | none => treeGet b name | some a => (a.value, true, 0)
  | [], b, name, _, _, _, _ => rfl
  | a :: l, b, name, h, hr, hn, ho => by
    obtain ⟨h1, h2, h3, h4⟩ := set_step h hr hn
    have ih := setAll_one l (treeSet b a.name a.value).1 name h2 h3 h4 (fun x hx => ho x (by simp [hx]))
    show treeGet (setAll (treeSet b a.name a.value).1 l) name = _
    rw [ih]
    have ha := ho a (by simp)
    cases l with
    | nil =>
      have := (treeSets_law (other := name) h1).1
      rw [ha] at this ⊢
      simpa using this
    | cons y l =>
      rw [List.getLast?_cons_cons]
      cases hz : (y :: l).getLast? with
      | none => simp at hz
      | some z => rfl
theorem calm_tick {name : List UInt8} {c : ClerkD} {o : OwnerD} {J : List Nat} (h : Calm name c o J) : (clerkTick c).2.2 = 0 ∧ ∃ J', Calm name (clerkTick c).1 o J' := by
  obtain ⟨t0, t⟩ := clerkTick_ok h.ok
  refine ⟨t0, ?_⟩
  have h0 := clerkCheck_iff.2 h.ok
  by_cases h1 : closedB c = true
  · have e : (clerkTick c).1 = c := by unfold clerkTick; rw [if_neg (by omega), if_pos h1]
    exact ⟨J, by rw [e]; exact h⟩
  by_cases h2 : (c.now + 1).tmod c.every = 0
  · have h1' : closedB c = false := by simpa using h1
    obtain ⟨u1, u2⟩ := queueTake_can h.ok
    obtain ⟨b1, b2⟩ := tickBook_ok h.ok
    have hroot := treeAtE_of (q := []) b1 (by simp) (by simp)
    have hrb : (treeAtE (tickBook c) []).1 < 2305843009213693951 := by rw [hroot]; exact (treeAt_bd61 _ _).2
    obtain ⟨g1, g2, g3⟩ := grow_can h.ok h1' hrb
    have e : (clerkTick c).1 = ⟨⟨c.queue.most, c.queue.wait.drop (minLen c.batch c.queue.wait)⟩, c.batch, c.every, c.now + 1, c.heads ++ [(headNext (lastH c.heads) (treeAtE (tickBook c) []).1 (c.now + 1)).1], c.books ++ [tickBook c]⟩ := by
      unfold clerkTick; rw [if_neg (by omega), if_neg (by omega), if_neg (by omega), u2, g2]
    have hlen1 := h.ok.chain.len1
    have hbl := h.ok.len
    have hJ : J.length - 1 < J.length := by rw [h.len]; omega
    obtain ⟨j, hj⟩ : ∃ j, J[J.length - 1]? = some j := ⟨_, List.getElem?_eq_getElem hJ⟩
    obtain ⟨q1, q2⟩ := h.wait j hj
    have hm := @minLen_le c.batch c.queue.wait
    generalize hmm : minLen c.batch c.queue.wait = m at hm
    have hq := (queueCheck_iff.1 h.ok.queue).2.2.2
    have hnames : ∀ a ∈ c.queue.wait.take m, a.name = name := fun a ha => by
      obtain ⟨p, hp⟩ := List.getElem?_of_mem (List.mem_of_mem_take ha)
      exact (q2 p a hp).1
    have hlast := h.ok.last
    have hone := setAll_one (c.queue.wait.take m) (lastB c.books) name (h.ok.book hlast) (fun a ha => hq a (List.mem_of_mem_take ha)) (Nat.le_trans (nn_mono fun x hx => by
      unfold clerkNs
      rcases List.mem_append.1 hx with q | q
      · simp [q]
      · obtain ⟨z, hz, rfl⟩ := mem_askNames.1 q
        have : z.name ∈ askNames c.queue.wait := mem_askNames.2 ⟨z, List.mem_of_mem_take hz, rfl⟩
        simp [this]) h.ok.names) hnames
    have htb : tickBook c = setAll (lastB c.books) (c.queue.wait.take m) := by unfold tickBook; rw [u2, hmm]
    rw [← htb] at hone
    have hnew : treeGet (tickBook c) name = told o.wanted (j + m) := by
      rw [hone]
      by_cases hm0 : m = 0
      · subst hm0
        simp only [List.take_zero, List.getLast?_nil, Nat.add_zero]
        exact h.book _ j _ (by rw [← h.len] at hlast; exact hj) (by rw [h.len]; exact hlast)
      · have hg : (c.queue.wait.take m).getLast? = c.queue.wait[m - 1]? := by
          rw [List.getLast?_eq_getElem?, List.length_take, Nat.min_eq_left hm, List.getElem?_take, if_pos (by omega)]
        rw [hg]
        obtain ⟨a, ha⟩ : ∃ a, c.queue.wait[m - 1]? = some a := ⟨_, List.getElem?_eq_getElem (by omega)⟩
        rw [ha]
        obtain ⟨r1, r2⟩ := q2 _ a ha
        unfold told
        rw [if_neg (by omega), show j + m - 1 = j + (m - 1) by omega, r2]; rfl
    refine ⟨J ++ [j + m], t.ok, h.own, h.nm, ?_, ?_, ?_, ?_, ?_, ?_, ?_⟩
    · refine ⟨h.at_.1, ?_⟩
      rw [e]; simp only
      rw [List.getElem?_append_left (List.getElem?_eq_some_iff.1 h.at_.2).1]; exact h.at_.2
    · rw [e]; simp [h.len]
    · intro p q i k hpq hi hk
      by_cases hq2 : q < J.length
      · rw [List.getElem?_append_left hq2] at hk
        rw [List.getElem?_append_left (by omega)] at hi
        exact h.mono p q i k hpq hi hk
      · have hk' : k = j + m := by
          rw [List.getElem?_append_right (by omega)] at hk
          have := List.mem_of_getElem? hk
          simpa using this
        by_cases hp2 : p < J.length
        · rw [List.getElem?_append_left hp2] at hi
          have := h.mono p (J.length - 1) i j (by omega) hi hj
          omega
        · rw [List.getElem?_append_right (by omega)] at hi
          have := List.mem_of_getElem? hi
          have : i = j + m := by simpa using this
          omega
    · intro p k hk
      by_cases hp2 : p < J.length
      · rw [List.getElem?_append_left hp2] at hk; exact h.le p k hk
      · rw [List.getElem?_append_right (by omega)] at hk
        have := List.mem_of_getElem? hk
        have : k = j + m := by simpa using this
        omega
    · intro p k b hk hb
      rw [e] at hb; simp only at hb
      by_cases hp2 : p < J.length
      · rw [List.getElem?_append_left hp2] at hk
        rw [List.getElem?_append_left (by rw [← h.len]; exact hp2)] at hb
        exact h.book p k b hk hb
      · rw [List.getElem?_append_right (by omega)] at hk
        rw [List.getElem?_append_right (by rw [← h.len]; omega)] at hb
        have h3 := List.mem_of_getElem? hk
        have h4 := List.mem_of_getElem? hb
        have h5 : k = j + m := by simpa using h3
        have h6 : b = tickBook c := by simpa using h4
        rw [h5, h6]; exact hnew
    · intro k hk
      have hk' : k = j + m := by
        rw [List.length_append, List.getElem?_append_right (by simp)] at hk
        have := List.mem_of_getElem? hk
        simpa using this
      subst hk'
      rw [e]; simp only
      rw [hmm]
      refine ⟨by rw [List.length_drop]; omega, fun p a hp => ?_⟩
      rw [List.getElem?_drop] at hp
      obtain ⟨r1, r2⟩ := q2 _ a hp
      exact ⟨r1, by rw [← r2]; congr 1; omega⟩
    · intro k hk
      have hl : o.head.epoch.toNat < J.length := by rw [h.len, hbl]; exact (List.getElem?_eq_some_iff.1 h.at_.2).1
      rw [List.getElem?_append_left hl] at hk
      exact h.had k hk
  · have e : (clerkTick c).1 = ⟨c.queue, c.batch, c.every, c.now + 1, c.heads, c.books⟩ := by unfold clerkTick; rw [if_neg (by omega), if_neg h1, if_pos h2]
    exact ⟨J, t.ok, h.own, h.nm, by rw [e]; exact h.at_, by rw [e]; exact h.len, h.mono, h.le, by rw [e]; exact h.book, by rw [e]; exact h.wait, h.had⟩
theorem idxF_first {α : Type} {p : α → Bool} {l : List α} {m : Nat} {x : α} (h : l[m]? = some x) (hp : p x = true) : 0 ≤ idxF p l ∧ idxF p l ≤ m := by
  obtain ⟨hl, hx⟩ := List.getElem?_eq_some_iff.1 h
  unfold idxF
  cases e : l.findIdx? p with
  | none =>
    have := List.findIdx?_eq_none_iff.1 e x (by rw [← hx]; exact List.getElem_mem hl)
    rw [hp] at this; cases this
  | some i =>
    obtain ⟨h1, h2, h3⟩ := List.findIdx?_eq_some_iff_getElem.1 e
    simp only
    refine ⟨by omega, ?_⟩
    apply Decidable.byContradiction
    intro hc
    have := h3 m (by omega)
    rw [hx, hp] at this; simp at this
theorem heads_at {c : ClerkD} (h : ClerkOk c) {x : HeadD} (hx : x ∈ c.heads) : 0 ≤ x.epoch ∧ c.heads[x.epoch.toNat]? = some x := by
  obtain ⟨k, hk⟩ := List.getElem?_of_mem hx
  have he := h.chain.epoch k x hk
  rw [h.first] at he
  have : x.epoch.toNat = k := by omega
  exact ⟨by omega, by rw [this]; exact hk⟩
theorem cut_mem {l : List HeadD} {a b : Int} {x : HeadD} (h : x ∈ cut l a b) : x ∈ l := by
  unfold cut at h; exact List.mem_of_mem_take (List.mem_of_mem_drop h)
theorem calm_see {name : List UInt8} {c : ClerkD} {o : OwnerD} {J : List Nat} (h : Calm name c o J) {a b : Int} (ha0 : 0 ≤ a) (hab : a ≤ b) (hb : b < c.heads.length) (hae : a ≤ o.head.epoch + 1) :
    (serveHeads c a b).2 = 0 ∧ (serveLook c name b).2 = 0 ∧ (ownerSee o (serveHeads c a b).1 (serveLook c name b).1).2.2 = 0 ∧ (ownerSee o (serveHeads c a b).1 (serveLook c name b).1).2.1 ≤ 1 ∧ 0 ≤ (ownerSee o (serveHeads c a b).1 (serveLook c name b).1).2.1 ∧ Calm name c (ownerSee o (serveHeads c a b).1 (serveLook c name b).1).1 J := by
  have h0 := clerkCheck_iff.2 h.ok
  have hlE := h.ok.chain.lastE
  have hf := h.ok.first
  have hlen := h.ok.len
  have hcut := chainPart_of h.ok.chain hab (by omega) (by omega : b ≤ (lastH c.heads).epoch)
  obtain ⟨k1, k2, k3, k4, k5⟩ := cut_ok h.ok.chain hab (by omega) (by omega : b ≤ (lastH c.heads).epoch)
  have hH : serveHeads c a b = (cut c.heads a b, 0) := by unfold serveHeads; rw [if_neg (by omega), hcut]
  obtain ⟨hname, hh0, hw30, hw20, hd0, hd1⟩ := ownerCheck_iff.1 h.own
  rw [h.nm] at hname
  have hbk : (clerkBook c b).2 = 0 := by unfold clerkBook; rw [if_neg (by omega), if_neg (by omega)]
  obtain ⟨_, _, _, hx⟩ := book_ok hbk
  have hpm : (proofMake (clerkBook c b).1 name).2 = 0 := by
    have hp : (pathOf name).2 = 0 := by unfold pathOf; rw [if_neg (by rw [hname]; simp)]
    unfold proofMake
    rw [if_neg (by rw [treeCheck_iff.2 (h.ok.book hx)]; simp), if_neg (by omega)]
  have hL : serveLook c name b = (⟨c.heads[b.toNat]?.getD headZ, (proofMake (clerkBook c b).1 name).1⟩, 0) := by
    unfold serveLook; rw [if_neg (by omega), if_neg (by omega)]
  have hL2 : (serveLook c name b).2 = 0 := by rw [hL]
  obtain ⟨_, l2, l3, l4⟩ := look_law hL2
  have hbl : b.toNat < c.heads.length := by omega
  have hhb : c.heads[b.toNat]? = some c.heads[b.toNat] := List.getElem?_eq_getElem hbl
  have hrh : (serveLook c name b).1.head = lastH (cut c.heads a b) := by
    have q1 := heads_at h.ok (cut_mem (List.mem_of_getElem? k1.last))
    rw [k5] at q1
    rw [hL]; simp only
    rw [q1.2]; rfl
  have hrn : (serveLook c name b).1.proof.name = name := by
    rw [hL]; simp only
    rw [(make_ok hpm).2.2]; rfl
  have hbJ : b.toNat < J.length := by rw [h.len, hlen]; exact hbl
  obtain ⟨j, hj⟩ : ∃ j, J[b.toNat]? = some j := ⟨_, List.getElem?_eq_getElem hbJ⟩
  have htold : serveTell (serveLook c name b).1 = told o.wanted j := by rw [l2]; exact h.book _ _ _ hj hx
  have heJ : o.head.epoch.toNat < J.length := by rw [h.len, hlen]; exact (List.getElem?_eq_some_iff.1 h.at_.2).1
  obtain ⟨e, he⟩ : ∃ e, J[o.head.epoch.toNat]? = some e := ⟨_, List.getElem?_eq_getElem heJ⟩
  have hade := h.had e he
  rw [hH]
  simp only
  have hlinks : ownerLinks o.head (cut c.heads a b) = if b ≤ o.head.epoch then 1 else 0 := by
    unfold ownerLinks
    rw [if_neg (by rw [chainCheck_iff.2 k1]; simp; omega), if_neg, if_neg, k5]
    · rw [List.any_eq_true]
      rintro ⟨x, hxm, hd⟩
      unfold linkDiff at hd
      simp only [Bool.and_eq_true, decide_eq_true_eq, Bool.not_eq_true', decide_eq_false_iff_not] at hd
      have q := heads_at h.ok (cut_mem hxm)
      rw [hd.1, h.at_.2] at q
      exact hd.2 (Option.some.inj q.2).symm
    · rintro ⟨e1, e2⟩
      have q := heads_at h.ok (cut_mem (List.mem_of_getElem? k1.first))
      rw [e1] at q
      have hk := h.ok.chain.lnk o.head.epoch.toNat _ _ h.at_.2 (by rw [← q.2]; congr 1; have := h.at_.1; omega)
      have hl : linkedI [o.head, firstH (cut c.heads a b)] < 0 := by
        unfold linkedI
        rw [lnk_iff]
        intro k x y hx hy
        have hk0 : k = 0 := by have := (List.getElem?_eq_some_iff.1 hy).1; simp at this; omega
        subst hk0
        simp at hx hy
        subst hx hy
        exact hk
      unfold chainFollows at e2
      rw [if_neg (by rw [check1_iff.2 k1]; simp), if_neg (by rw [hh0]; simp)] at e2
      simp only [decide_eq_false_iff_not] at e2
      exact e2 hl
  by_cases hbo : b ≤ o.head.epoch
  · rw [if_pos hbo] at hlinks
    have hv : ownerVerdict o (cut c.heads a b) (serveLook c name b).1 = (1, 0) := by unfold ownerVerdict; rw [hlinks, if_pos (by decide)]
    have hs : ownerSee o (cut c.heads a b) (serveLook c name b).1 = (o, 1, 0) := by unfold ownerSee; rw [if_neg (by rw [h.own]; simp), hv, if_neg (by decide)]
    rw [hs]
    exact ⟨trivial, hL2, rfl, by simp, by simp, h⟩
  · rw [if_neg hbo] at hlinks
    have hej : e ≤ j := h.mono _ _ _ _ (by have := h.at_.1; omega) he hj
    have hfine : (ownerVerdict o (cut c.heads a b) (serveLook c name b).1).1 = 0 ∧ (ownerVerdict o (cut c.heads a b) (serveLook c name b).1).2 ≤ j := by
      unfold ownerVerdict
      rw [if_neg (by rw [hlinks]; simp), if_neg (by rw [hrh, hrn, h.nm, htold]; simp; unfold told; split <;> rfl)]
      rw [htold]
      unfold told
      by_cases hj0 : j = 0
      · rw [if_pos hj0]
        simp only
        rw [if_neg (by omega), if_pos trivial]
        exact ⟨rfl, by simp⟩
      · rw [if_neg hj0]
        simp only
        rw [if_neg (by simp), if_neg (by simp)]
        have hjl := h.le _ _ hj
        have hwj : o.wanted[j - 1]? = some (o.wanted[j - 1]?.getD []) := by
          rw [List.getElem?_eq_getElem (by omega)]; rfl
        generalize hv : o.wanted[j - 1]?.getD [] = v at hwj
        have hfr : hadFrom o ≤ j - 1 ∧ 0 ≤ hadFrom o := by unfold hadFrom; split <;> omega
        have hget : (o.wanted.drop (hadFrom o).toNat)[j - 1 - (hadFrom o).toNat]? = some v := by
          rw [List.getElem?_drop, show (hadFrom o).toNat + (j - 1 - (hadFrom o).toNat) = j - 1 by omega]; exact hwj
        have hi := idxF_first (p := fun x => decide (v = x)) hget (by simp)
        have hid : hadIdx o v = idxF (fun x => decide (v = x)) (o.wanted.drop (hadFrom o).toNat) := rfl
        rw [if_neg (by rw [hid]; omega)]
        refine ⟨rfl, ?_⟩
        simp only
        rw [hid]; omega
    have hs : ownerSee o (cut c.heads a b) (serveLook c name b).1 = (⟨o.name, o.key, (serveLook c name b).1.head, o.wanted, (ownerVerdict o (cut c.heads a b) (serveLook c name b).1).2⟩, 0, 0) := by
      unfold ownerSee; rw [if_neg (by rw [h.own]; simp), if_pos hfine.1]
    have hz : (ownerSee o (cut c.heads a b) (serveLook c name b).1).2.2 = 0 := by rw [hs]
    have hz1 : (ownerSee o (cut c.heads a b) (serveLook c name b).1).2.1 = 0 := by rw [hs]
    have hck := (see_fine hz hz1).2.2.2.2.1
    rw [hs] at hck ⊢
    refine ⟨trivial, hL2, rfl, by simp, by simp, ⟨h.ok, hck, h.nm, ?_, h.len, h.mono, h.le, h.book, h.wait, ?_⟩⟩
    · rw [show (OwnerD.mk o.name o.key (serveLook c name b).1.head o.wanted (ownerVerdict o (cut c.heads a b) (serveLook c name b).1).2).head = (serveLook c name b).1.head from rfl, l4]
      refine ⟨by omega, ?_⟩
      rw [hhb, hL]; simp only
      rw [hhb]; rfl
    · intro i hi
      simp only at hi ⊢
      rw [l4, hj] at hi
      cases hi
      exact hfine.2
def calmEx (name : List UInt8) (c : ClerkD) (o : OwnerD) : Prop := ∃ J, Calm name c o J
theorem calm0_new : (clerkNew 10 2 1).2 = 0 ∧ clerkCheck (clerkNew 10 2 1).1 = 0 ∧ (clerkNew 10 2 1).1.books = [[]] ∧ (clerkNew 10 2 1).1.queue.wait = [] ∧ (clerkNew 10 2 1).1.heads.length = 1 := by decide +kernel
theorem ownerNew_err {name : List UInt8} {key : Int} {h : HeadD} (e : ¬ (ownerNew name key h).2 = 0) : (ownerNew name key h).1 = ownerZ := by
  revert e; unfold ownerNew; split <;> simp
theorem ex_start {name : List UInt8} {key : Int} {x : HeadD} (hx : (clerkNew 10 2 1).1.heads[0]? = some x) (h : (ownerNew name key x).2 = 0) : calmEx name (clerkNew 10 2 1).1 (ownerNew name key x).1 := by
  obtain ⟨_, q2, q3, q4, _⟩ := calm0_new
  have e := firstH_get hx
  subst e
  exact ⟨_, calm_start h q2 q3 q4⟩
theorem ex_tick {name : List UInt8} {c : ClerkD} {o : OwnerD} (h : calmEx name c o) : calmEx name (clerkTick c).1 o := let ⟨_, h⟩ := h; (calm_tick h).2
theorem ex_tick0 {name : List UInt8} {c : ClerkD} {o : OwnerD} (h : calmEx name c o) : (clerkTick c).2.2 = 0 := let ⟨_, h⟩ := h; (calm_tick h).1
theorem ex_ask {name s : List UInt8} {c : ClerkD} {o : OwnerD} (h : calmEx name c o) (hw : (ownerWant o s).2.2 = 0) (ha : (clerkAsk c (ownerWant o s).2.1).2.2 = 0) : calmEx name (clerkAsk c (ownerWant o s).2.1).1 (ownerWant o s).1 := let ⟨J, h⟩ := h; ⟨J, calm_ask h hw ha⟩
theorem ex_facts {name : List UInt8} {c : ClerkD} {o : OwnerD} (h : calmEx name c o) : 1 ≤ c.heads.length ∧ c.heads.length ≤ 40 ∧ 0 ≤ o.head.epoch ∧ o.head.epoch ≤ 1000000 := by
  obtain ⟨J, h⟩ := h
  have := headCheck_ok (ownerCheck_iff.1 h.own).2.1
  exact ⟨h.ok.chain.len1, h.ok.chain.len, h.at_.1, this.2.1⟩
theorem ex_see {name : List UInt8} {c : ClerkD} {o : OwnerD} (h : calmEx name c o) {a b : Int} (ha0 : 0 ≤ a) (hab : a ≤ b) (hb : b < c.heads.length) (hae : a ≤ o.head.epoch + 1) : calmEx name c (ownerSee o (serveHeads c a b).1 (serveLook c name b).1).1 := let ⟨J, h⟩ := h; ⟨J, (calm_see h ha0 hab hb hae).2.2.2.2.2⟩
theorem ex_see0 {name : List UInt8} {c : ClerkD} {o : OwnerD} (h : calmEx name c o) {a b : Int} (ha0 : 0 ≤ a) (hab : a ≤ b) (hb : b < c.heads.length) (hae : a ≤ o.head.epoch + 1) : (serveHeads c a b).2 = 0 ∧ (serveLook c name b).2 = 0 ∧ (ownerSee o (serveHeads c a b).1 (serveLook c name b).1).2.2 = 0 ∧ (ownerSee o (serveHeads c a b).1 (serveLook c name b).1).2.1 ≤ 1 := by
  obtain ⟨J, h⟩ := h
  obtain ⟨q1, q2, q3, q4, _⟩ := calm_see h ha0 hab hb hae
  exact ⟨q1, q2, q3, q4⟩
theorem serveHeads_con (G : Mem) (vs_c : List Value) (c : ClerkD) (h_c : EClerk.R G vs_c c) (a : Int) (hw_a : -9223372036854775808 ≤ a ∧ a < 9223372036854775808) (b : Int) (hw_b : -9223372036854775808 ≤ b ∧ b < 9223372036854775808)  : Con Tryz.prog 46 #[.agg vs_c.toArray, I a, I b] G [] (fun u G' L' => ∃ (a1 : Option Addr) (c2 : Nat), u = .tuple #[Sl a1 (((serveHeads c a b).1).length) c2, I ((serveHeads c a b).2)] ∧ (RS EHead G' a1 c2 ((serveHeads c a b).1)) ∧ L' = []) := by
 obtain ⟨a1, c1, a2, c2, a3, c3, rfl, w1, hs1, w2, w3, w4, hs2, hs3⟩ := h_c
 refine con_of Tryz.func46 21 [(0, .agg #[I c.queue.most, Sl a1 c.queue.wait.length c1, I c.batch, I c.every, I c.now, Sl a2 c.heads.length c2, Sl a3 c.books.length c3]), (1, I a), (2, I b)] rfl (fun w0 G0 => ?_)
 refine tc_seq (tc_region ?_)
 refine runL_box 3 #[I c.queue.most, Sl a1 c.queue.wait.length c1, I c.batch, I c.every, I c.now, Sl a2 c.heads.length c2, Sl a3 c.books.length c3] 28 (fun b1 => ?_)
 refine runL_b [0,0] [(1, I a), (2, I b), (3, Pt b1 0)] (runL_nil (tq_then (tc_seq (tc_seq (tc_region ?_)))))
 refine runL_b [2] [(1, I a), (2, I b), (3, Pt b1 0), (9, .agg #[I c.queue.most, Sl a1 c.queue.wait.length c1, I c.batch, I c.every, I c.now, Sl a2 c.heads.length c2, Sl a3 c.books.length c3])] ?_
 refine runL_callV 10 (I (clerkCheck c)) (clerkCheck_con G [I c.queue.most, Sl a1 c.queue.wait.length c1, I c.batch, I c.every, I c.now, Sl a2 c.heads.length c2, Sl a3 c.books.length c3] c (⟨a1, c1, a2, c2, a3, c3, rfl, w1, hs1, w2, w3, w4, hs2, hs3⟩)) ?_
 refine runL_b [0] [(1, I a), (2, I b), (3, Pt b1 0), (8, I (clerkCheck c))] (runL_nil (tq_then ?_))
 refine tc_rb [0,0] [(1, I a), (2, I b), (3, Pt b1 0), (8, I (clerkCheck c)), (12, Bo (!decide (clerkCheck c = 0)))] ?_
 refine tc_cond (!decide (clerkCheck c = 0)) (fun h1 => ?_) (fun h1 => ?_)
 ·
  try simp only [BB] at h1
  refine tc_rb [0,0,0] [(6, Sl none 0 0), (7, I (clerkCheck c))] (tc_ret (tq_then_ret ?_))
  have hf1 : serveHeads c a b = ([], clerkCheck c) := by
   unfold serveHeads; first | (rw [if_pos (by assumption)]; done) | (rw [if_neg (by omega)]; done)
  refine tq_ret [0, 0] [Sl none 0 0, I (clerkCheck c)] (bp_rows [] (.cons _ .slnil) (Mem.le_refl _) ?_)
  rw [hf1]
  try dsimp only
  exact ⟨none, 0, rfl, (RS.nil' EHead G), rfl⟩
 ·
  try simp only [BB] at h1
  refine tc_skip (tq_then (tc_seq (tc_region ?_)))
  refine runL_b [0,2,0,0] [(15, Sl a2 c.heads.length c2), (16, I a), (17, I b)] ?_
  refine runL_callR 18 (chainPart_con G a2 c2 c.heads hs2 a hw_a b hw_b) (fun v G1 L1 hl1 hp => ?_)
  obtain ⟨a4, c4, rfl, hs4, rfl⟩ := hp
  refine runL_b [0,0,0,0] [(6, Sl a4 (((chainPart c.heads a b).1).length) c4), (7, I ((chainPart c.heads a b).2))] (runL_nil (tq_then (tc_ret ?_)))
  have hf2 : serveHeads c a b = ((chainPart c.heads a b).1, (chainPart c.heads a b).2) := by
   unfold serveHeads; first | (rw [if_pos (by assumption)]; done) | (rw [if_neg (by omega)]; done)
  refine tq_ret [0, 0] [Sl a4 (((chainPart c.heads a b).1).length) c4, I ((chainPart c.heads a b).2)] (bp_rows [] (.cons _ .slnil) hl1 ?_)
  rw [hf2]
  try dsimp only
  exact ⟨a4, c4, rfl, hs4, rfl⟩
set_option maxHeartbeats 1600000 in
theorem ownerCalm_con (G : Mem) (key : Int) (hw_key : 0 ≤ key ∧ key < 18446744073709551616) (name : List UInt8) (hw_name : (name).length ≤ 140737488351232) (a_values : Option Addr) (c_values : Nat) (values : List (List UInt8)) (h_values : RS ES G a_values c_values values) (a_looks : Option Addr) (c_looks : Nat) (looks : List IID) (h_looks : RS EII G a_looks c_looks looks) (hf_values : values.length * 16 ≤ 140737488351232) (hf_looks : looks.length * 16 ≤ 140737488351232) : Con Tryz.prog 11 #[U key, Sr name, Sl a_values values.length c_values, Sl a_looks looks.length c_looks] G [] (fun u G' L' => u = Bo true) := by
 refine con_of Tryz.func11 152 [(0, U key), (1, Sr name), (2, Sl a_values values.length c_values), (3, Sl a_looks looks.length c_looks)] rfl (fun w0 G0 => ?_)
 refine tc_rb [0] [(0, U key), (1, Sr name), (2, Sl a_values values.length c_values), (3, Sl a_looks looks.length c_looks)] (tc_seq (tc_seq (tc_region ?_)))
 refine runL_callV 30 (Bo true) (owners_con G) ?_
 refine runL_b [0] [(0, U key), (1, Sr name), (2, Sl a_values values.length c_values), (3, Sl a_looks looks.length c_looks), (31, Bo false)] (runL_nil (tq_then ?_))
 refine tc_cond_false ?_
 refine tc_skip (tq_then (tc_seq (tc_region ?_)))
 refine runL_callR 33 (clerkNew_con G 10 (by first | assumption | omega | (simp; done) | (simp; omega)) 2 (by first | assumption | omega | (simp; done) | (simp; omega)) 1 (by first | assumption | omega | (simp; done) | (simp; omega))) (fun v G1 L1 hl1 hp => ?_)
 obtain ⟨a1, c1, a2, c2, a3, c3, rfl, w1, hs1, w2, w3, w4, hs2, hs3, rfl⟩ := hp
 refine runL_b [0,0,0] [(0, U key), (1, Sr name), (2, Sl a_values values.length c_values), (3, Sl a_looks looks.length c_looks), (34, .agg #[I (((clerkNew 10 2 1).1).queue.most), Sl a1 ((((clerkNew 10 2 1).1).queue.wait).length) c1, I (((clerkNew 10 2 1).1).batch), I (((clerkNew 10 2 1).1).every), I (((clerkNew 10 2 1).1).now), Sl a2 ((((clerkNew 10 2 1).1).heads).length) c2, Sl a3 ((((clerkNew 10 2 1).1).books).length) c3]), (35, I ((clerkNew 10 2 1).2))] ?_
 refine runL_box 9 #[I 0, Sl none 0 0, I 0, I 0, I 0, Sl none 0 0, Sl none 0 0] 28 (fun b1 => ?_)
 refine runL_bs [3,0] [(0, U key), (1, Sr name), (2, Sl a_values values.length c_values), (3, Sl a_looks looks.length c_looks), (9, Pt b1 0), (10, I ((clerkNew 10 2 1).2))] [[Sg b1 0 [I (((clerkNew 10 2 1).1).queue.most), Sl a1 ((((clerkNew 10 2 1).1).queue.wait).length) c1, I (((clerkNew 10 2 1).1).batch), I (((clerkNew 10 2 1).1).every), I (((clerkNew 10 2 1).1).now), Sl a2 ((((clerkNew 10 2 1).1).heads).length) c2, Sl a3 ((((clerkNew 10 2 1).1).books).length) c3]]] (runL_nil (tq_then (tc_seq ?_)))
 refine tc_rb [0,0] [(0, U key), (1, Sr name), (2, Sl a_values values.length c_values), (3, Sl a_looks looks.length c_looks), (9, Pt b1 0), (37, Bo (!decide ((clerkNew 10 2 1).2 = 0)))] ?_
 refine tc_cond (!decide ((clerkNew 10 2 1).2 = 0)) (fun h1 => ?_) (fun h1 => ?_)
 ·
  try simp only [BB] at h1
  refine tc_rb [0] [(8, Bo false)] (tc_ret (tq_then_ret ?_))
  refine tq_ret [0] [Bo false] (bp_ret hl1 ?_)
  exfalso
  first | rfl | (exact absurd calm0_new.1 (by assumption)) | (rw [ownerNew_err (by assumption)]; rfl) | (exact absurd (ex_tick0 hJ) (by assumption)) | (have q_ := ex_see0 (ex_tick hJ) hfb.2.2.1 hfb.2.2.2.1 hfb.2.1 hfb.2.2.2.2; simp_all; done) | (have q_ := ex_see0 (ex_tick hJ) hfb.2.2.1 hfb.2.2.2.1 hfb.2.1 hfb.2.2.2.2; simp_all; omega)
 ·
  try simp only [BB] at h1
  refine tc_skip (tq_then (tc_seq (tc_region ?_)))
  refine runL_b [0,0,0,2] [(1, Sr name), (2, Sl a_values values.length c_values), (3, Sl a_looks looks.length c_looks), (9, Pt b1 0), (39, Sr name), (40, U key), (42, Sl a2 ((((clerkNew 10 2 1).1).heads).length) c2)] ?_
  obtain ⟨b2, o1, rfl⟩ := RS.addr hs2 (k := 0) (by first | omega | (have q_ := calm0_new.2.2.2.2; omega) | (have q_ := ex_facts hJ; omega) | (have q_ := ex_facts (ex_tick hJ); omega))
  obtain ⟨x1, hx1⟩ := getX (l := ((clerkNew 10 2 1).1).heads) (k := 0) (by first | omega | (have q_ := calm0_new.2.2.2.2; omega) | (have q_ := ex_facts hJ; omega) | (have q_ := ex_facts (ex_tick hJ); omega))
  obtain ⟨_, ⟨rfl, w5, w6, w7, w8⟩, hc1⟩ := RS.get hs2 hx1
  refine runL_idx (b := b2) (off := o1) (len := (((clerkNew 10 2 1).1).heads).length) (cap := c2) (ik := .i64) 43 32 4 0 (by first | omega | (have q_ := calm0_new.2.2.2.2; omega) | (have q_ := ex_facts hJ; omega) | (have q_ := ex_facts (ex_tick hJ); omega)) ?_
  refine runL_ldG 44 32 (cs := [I x1.epoch, U x1.root, U x1.prev, I x1.at_]) 0 (.agg #[I x1.epoch, U x1.root, U x1.prev, I x1.at_]) hc1 ?_
  refine runL_callR 45 (ownerNew_con G1 name hw_name key hw_key [I x1.epoch, U x1.root, U x1.prev, I x1.at_] x1 (⟨rfl, w5, w6, w7, w8⟩)) (fun v G2 L1 hl2 hp => ?_)
  obtain ⟨a4, c4, rfl, w9, w10, w11, w12, w13, w14, hs4, w15, rfl⟩ := hp
  refine runL_b [0,0,0] [(1, Sr name), (2, Sl a_values values.length c_values), (3, Sl a_looks looks.length c_looks), (9, Pt b1 0), (46, .agg #[Sr (((ownerNew name key x1).1).name), U (((ownerNew name key x1).1).key), I (((ownerNew name key x1).1).head.epoch), U (((ownerNew name key x1).1).head.root), U (((ownerNew name key x1).1).head.prev), I (((ownerNew name key x1).1).head.at_), Sl a4 ((((ownerNew name key x1).1).wanted).length) c4, I (((ownerNew name key x1).1).had)]), (47, I ((ownerNew name key x1).2))] ?_
  refine runL_box 11 #[Sr ([]), U 0, I 0, U 0, U 0, I 0, Sl none 0 0, I 0] 92 (fun b3 => ?_)
  refine runL_bs [3,0] [(1, Sr name), (2, Sl a_values values.length c_values), (3, Sl a_looks looks.length c_looks), (9, Pt b1 0), (11, Pt b3 0), (12, I ((ownerNew name key x1).2))] [[Sg b3 0 [Sr (((ownerNew name key x1).1).name), U (((ownerNew name key x1).1).key), I (((ownerNew name key x1).1).head.epoch), U (((ownerNew name key x1).1).head.root), U (((ownerNew name key x1).1).head.prev), I (((ownerNew name key x1).1).head.at_), Sl a4 ((((ownerNew name key x1).1).wanted).length) c4, I (((ownerNew name key x1).1).had)]], [Sg b1 0 [I (((clerkNew 10 2 1).1).queue.most), Sl a1 ((((clerkNew 10 2 1).1).queue.wait).length) c1, I (((clerkNew 10 2 1).1).batch), I (((clerkNew 10 2 1).1).every), I (((clerkNew 10 2 1).1).now), Sl (At b2 o1) ((((clerkNew 10 2 1).1).heads).length) c2, Sl a3 ((((clerkNew 10 2 1).1).books).length) c3]]] (runL_nil (tq_then (tc_seq ?_)))
  refine tc_rb [0,0] [(1, Sr name), (2, Sl a_values values.length c_values), (3, Sl a_looks looks.length c_looks), (9, Pt b1 0), (11, Pt b3 0), (49, Bo (!decide ((ownerNew name key x1).2 = 0)))] ?_
  refine tc_cond (!decide ((ownerNew name key x1).2 = 0)) (fun h2 => ?_) (fun h2 => ?_)
  ·
   try simp only [BB] at h2
   refine tc_rb [0,2,0,0] [(8, Bo ((B (((ownerNew name key x1).1).name)).toList == (B ([])).toList))] ?_
   refine tc_eq (fr' := [(8, Bo (((ownerNew name key x1).1).name == []))]) (L' := [[Sg b3 0 [Sr (((ownerNew name key x1).1).name), U (((ownerNew name key x1).1).key), I (((ownerNew name key x1).1).head.epoch), U (((ownerNew name key x1).1).head.root), U (((ownerNew name key x1).1).head.prev), I (((ownerNew name key x1).1).head.at_), Sl a4 ((((ownerNew name key x1).1).wanted).length) c4, I (((ownerNew name key x1).1).had)]], [Sg b1 0 [I (((clerkNew 10 2 1).1).queue.most), Sl a1 ((((clerkNew 10 2 1).1).queue.wait).length) c1, I (((clerkNew 10 2 1).1).batch), I (((clerkNew 10 2 1).1).every), I (((clerkNew 10 2 1).1).now), Sl (At b2 o1) ((((clerkNew 10 2 1).1).heads).length) c2, Sl a3 ((((clerkNew 10 2 1).1).books).length) c3]]]) (by simp only [B_toList]) (by rfl) ?_
   refine tc_ret (tq_then_ret ?_)
   refine tq_ret [0] [Bo (((ownerNew name key x1).1).name == [])] (bp_ret (Mem.le_trans hl1 hl2) ?_)
   have hf_ : (((ownerNew name key x1).1).name == []) = true := by
    first | rfl | (exact absurd calm0_new.1 (by assumption)) | (rw [ownerNew_err (by assumption)]; rfl) | (exact absurd (ex_tick0 hJ) (by assumption)) | (have q_ := ex_see0 (ex_tick hJ) hfb.2.2.1 hfb.2.2.2.1 hfb.2.1 hfb.2.2.2.2; simp_all; done) | (have q_ := ex_see0 (ex_tick hJ) hfb.2.2.1 hfb.2.2.2.1 hfb.2.1 hfb.2.2.2.2; simp_all; omega)
   exact congrArg Bo hf_
  ·
   try simp only [BB] at h2
   refine tc_skip (tq_then (tc_seq ?_))
   refine tc_rb [0,0,0] [(1, Sr name), (3, Sl a_looks looks.length c_looks), (9, Pt b1 0), (11, Pt b3 0), (53, Sl a_values values.length c_values), (54, I (values.length : Int)), (55, I 0)] (tc_block ?_)
   have hlm_h_looks : looks.length ≤ 9223372036854775807 := Nat.le_trans (h_looks).le (h_looks).max
   have hlm_h_values : values.length ≤ 9223372036854775807 := Nat.le_trans (h_values).le (h_values).max
   refine tc_loop (σ := Nat × ClerkD × Option Addr × Nat × Option Addr × Nat × Option Addr × Nat × OwnerD × Option Addr × Nat × Mem) (fun q_ => (Mem.le G2 q_.2.2.2.2.2.2.2.2.2.2.2) ∧ (q_.1 ≤ values.length) ∧ (-9223372036854775808 ≤ q_.2.1.queue.most ∧ q_.2.1.queue.most < 9223372036854775808) ∧ (RS EAsk q_.2.2.2.2.2.2.2.2.2.2.2 q_.2.2.1 q_.2.2.2.1 q_.2.1.queue.wait) ∧ (-9223372036854775808 ≤ q_.2.1.batch ∧ q_.2.1.batch < 9223372036854775808) ∧ (-9223372036854775808 ≤ q_.2.1.every ∧ q_.2.1.every < 9223372036854775808) ∧ (-9223372036854775808 ≤ q_.2.1.now ∧ q_.2.1.now < 9223372036854775808) ∧ (RS EHead q_.2.2.2.2.2.2.2.2.2.2.2 q_.2.2.2.2.1 q_.2.2.2.2.2.1 q_.2.1.heads) ∧ (RS ESlEnt q_.2.2.2.2.2.2.2.2.2.2.2 q_.2.2.2.2.2.2.1 q_.2.2.2.2.2.2.2.1 q_.2.1.books) ∧ ((q_.2.2.2.2.2.2.2.2.1.name).length ≤ 140737488351232) ∧ (0 ≤ q_.2.2.2.2.2.2.2.2.1.key ∧ q_.2.2.2.2.2.2.2.2.1.key < 18446744073709551616) ∧ (-9223372036854775808 ≤ q_.2.2.2.2.2.2.2.2.1.head.epoch ∧ q_.2.2.2.2.2.2.2.2.1.head.epoch < 9223372036854775808) ∧ (0 ≤ q_.2.2.2.2.2.2.2.2.1.head.root ∧ q_.2.2.2.2.2.2.2.2.1.head.root < 18446744073709551616) ∧ (0 ≤ q_.2.2.2.2.2.2.2.2.1.head.prev ∧ q_.2.2.2.2.2.2.2.2.1.head.prev < 18446744073709551616) ∧ (-9223372036854775808 ≤ q_.2.2.2.2.2.2.2.2.1.head.at_ ∧ q_.2.2.2.2.2.2.2.2.1.head.at_ < 9223372036854775808) ∧ (RS ES q_.2.2.2.2.2.2.2.2.2.2.2 q_.2.2.2.2.2.2.2.2.2.1 q_.2.2.2.2.2.2.2.2.2.2.1 q_.2.2.2.2.2.2.2.2.1.wanted) ∧ (-9223372036854775808 ≤ q_.2.2.2.2.2.2.2.2.1.had ∧ q_.2.2.2.2.2.2.2.2.1.had < 9223372036854775808) ∧ (calmEx name q_.2.1 q_.2.2.2.2.2.2.2.2.1)) (fun q_ => [(1, Sr name), (3, Sl a_looks looks.length c_looks), (9, Pt b1 0), (11, Pt b3 0), (53, Sl a_values values.length c_values), (54, I (values.length : Int)), (55, I (q_.1 : Int))]) (fun q_ => q_.2.2.2.2.2.2.2.2.2.2.2) (fun q_ => [[Sg b3 0 [Sr q_.2.2.2.2.2.2.2.2.1.name, U q_.2.2.2.2.2.2.2.2.1.key, I q_.2.2.2.2.2.2.2.2.1.head.epoch, U q_.2.2.2.2.2.2.2.2.1.head.root, U q_.2.2.2.2.2.2.2.2.1.head.prev, I q_.2.2.2.2.2.2.2.2.1.head.at_, Sl q_.2.2.2.2.2.2.2.2.2.1 q_.2.2.2.2.2.2.2.2.1.wanted.length q_.2.2.2.2.2.2.2.2.2.2.1, I q_.2.2.2.2.2.2.2.2.1.had]], [Sg b1 0 [I q_.2.1.queue.most, Sl q_.2.2.1 q_.2.1.queue.wait.length q_.2.2.2.1, I q_.2.1.batch, I q_.2.1.every, I q_.2.1.now, Sl q_.2.2.2.2.1 q_.2.1.heads.length q_.2.2.2.2.2.1, Sl q_.2.2.2.2.2.2.1 q_.2.1.books.length q_.2.2.2.2.2.2.2.1]]]) (fun q_ => values.length - q_.1) (0, ((clerkNew 10 2 1).1), a1, c1, At b2 o1, c2, a3, c3, ((ownerNew name key x1).1), a4, c4, G2) ⟨(Mem.le_refl _), (by (try dsimp only); first | exact Nat.zero_le _ | omega | simp), w1, (hs1.mono hl2), w2, w3, w4, (hs2.mono hl2), (hs3.mono hl2), w9, w10, w11, w12, w13, w14, hs4, w15, (ex_start (by assumption) (by assumption))⟩ (fun q_ hs => ?_)
   obtain ⟨i, kc, akc0, ckc0, akc1, ckc1, akc2, ckc2, ko, ako0, cko0, g⟩ := q_
   obtain ⟨hle, hi, hkc0, hkc1, hkc2, hkc3, hkc4, hkc5, hkc6, hko0, hko1, hko2, hko3, hko4, hko5, hko6, hko7, hI⟩ := hs
   dsimp only at hle hi hkc0 hkc1 hkc2 hkc3 hkc4 hkc5 hkc6 hko0 hko1 hko2 hko3 hko4 hko5 hko6 hko7 hI
   refine tc_eq (fr' := [(1, Sr name), (3, Sl a_looks looks.length c_looks), (9, Pt b1 0), (11, Pt b3 0), (53, Sl a_values values.length c_values), (54, I (values.length : Int)), (55, I (i : Int))]) (L' := [[Sg b3 0 [Sr ko.name, U ko.key, I ko.head.epoch, U ko.head.root, U ko.head.prev, I ko.head.at_, Sl ako0 ko.wanted.length cko0, I ko.had]], [Sg b1 0 [I kc.queue.most, Sl akc0 kc.queue.wait.length ckc0, I kc.batch, I kc.every, I kc.now, Sl akc1 kc.heads.length ckc1, Sl akc2 kc.books.length ckc2]]]) rfl rfl ?_
   refine tc_rb [0] [(1, Sr name), (3, Sl a_looks looks.length c_looks), (9, Pt b1 0), (11, Pt b3 0), (53, Sl a_values values.length c_values), (54, I (values.length : Int)), (55, I (i : Int)), (56, Bo (decide ((i : Int) < (values.length : Int))))] (tc_seq ?_)
   refine tc_cond (decide ((i : Int) < (values.length : Int))) (fun h3 => ?_) (fun h3 => ?_)
   ·
    try simp only [BB] at h3
    refine tc_skip (tq_then (tc_seq (tc_block (tc_seq (tc_region ?_)))))
    refine runL_b [0] [(1, Sr name), (3, Sl a_looks looks.length c_looks), (9, Pt b1 0), (11, Pt b3 0), (53, Sl a_values values.length c_values), (54, I (values.length : Int)), (55, I (i : Int)), (57, I (i : Int))] ?_
    obtain ⟨b4, o2, rfl⟩ := RS.addr (h_values.mono (Mem.le_trans (Mem.le_trans hl1 hl2) hle)) (k := i) (by first | omega | (have q_ := calm0_new.2.2.2.2; omega) | (have q_ := ex_facts hJ; omega) | (have q_ := ex_facts (ex_tick hJ); omega))
    obtain ⟨x2, hx2⟩ := getX (l := values) (k := i) (by first | omega | (have q_ := calm0_new.2.2.2.2; omega) | (have q_ := ex_facts hJ; omega) | (have q_ := ex_facts (ex_tick hJ); omega))
    obtain ⟨_, ⟨rfl, w16⟩, hc2⟩ := RS.get (h_values.mono (Mem.le_trans (Mem.le_trans hl1 hl2) hle)) hx2
    refine runL_idx (b := b4) (off := o2) (len := values.length) (cap := c_values) (ik := .i64) 58 9 1 i (by first | omega | (have q_ := calm0_new.2.2.2.2; omega) | (have q_ := ex_facts hJ; omega) | (have q_ := ex_facts (ex_tick hJ); omega)) ?_
    refine runL_ldG 59 9 (cs := [Sr x2]) 0 (Sr x2) hc2 ?_
    refine runL_b [0,0] [(1, Sr name), (3, Sl a_looks looks.length c_looks), (9, Pt b1 0), (11, Pt b3 0), (13, I (i : Int)), (14, Sr x2), (53, Sl (At b4 o2) values.length c_values), (54, I (values.length : Int)), (55, I (i : Int))] (runL_nil (tq_then (tc_seq ?_)))
    refine tc_rb [0,0] [(1, Sr name), (3, Sl a_looks looks.length c_looks), (9, Pt b1 0), (11, Pt b3 0), (13, I (i : Int)), (14, Sr x2), (53, Sl (At b4 o2) values.length c_values), (54, I (values.length : Int)), (55, I (i : Int)), (61, Bo (decide ((i : Int) ≥ 12)))] ?_
    refine tc_cond (decide ((i : Int) ≥ 12)) (fun h4 => ?_) (fun h4 => ?_)
    ·
     try simp only [BB] at h4
     refine tc_exit (tq_then_exit ?_)
     refine tq_block_out rfl ?_
     refine tq_then_exit (tq_rnd_exit (tq_block_here (tq_then ?_)))
     refine tc_rb [0] [(8, Bo true)] (tc_ret ?_)
     refine tq_ret [0] [Bo true] (bp_ret (Mem.le_trans (Mem.le_trans hl1 hl2) hle) ?_)
     rfl
    ·
     try simp only [BB] at h4
     refine tc_skip (tq_then (tc_seq (tc_region ?_)))
     refine runL_b [2,0] [(1, Sr name), (3, Sl a_looks looks.length c_looks), (9, Pt b1 0), (11, Pt b3 0), (13, I (i : Int)), (53, Sl (At b4 o2) values.length c_values), (54, I (values.length : Int)), (55, I (i : Int)), (63, .agg #[Sr ko.name, U ko.key, I ko.head.epoch, U ko.head.root, U ko.head.prev, I ko.head.at_, Sl ako0 ko.wanted.length cko0, I ko.had]), (64, Sr x2)] ?_
     refine runL_callR 65 (ownerWant_con g [Sr ko.name, U ko.key, I ko.head.epoch, U ko.head.root, U ko.head.prev, I ko.head.at_, Sl ako0 ko.wanted.length cko0, I ko.had] ko (⟨ako0, cko0, rfl, hko0, hko1, hko2, hko3, hko4, hko5, hko6, hko7⟩) x2 w16) (fun v G3 L1 hl3 hp => ?_)
     obtain ⟨a5, c5, rfl, w17, w18, w19, w20, w21, w22, hs5, w23, w24, w25, w26, w27, rfl⟩ := hp
     refine runL_b [0,0,0,0] [(1, Sr name), (3, Sl a_looks looks.length c_looks), (9, Pt b1 0), (11, Pt b3 0), (13, I (i : Int)), (53, Sl (At b4 o2) values.length c_values), (54, I (values.length : Int)), (55, I (i : Int)), (66, .agg #[Sr (((ownerWant ko x2).1).name), U (((ownerWant ko x2).1).key), I (((ownerWant ko x2).1).head.epoch), U (((ownerWant ko x2).1).head.root), U (((ownerWant ko x2).1).head.prev), I (((ownerWant ko x2).1).head.at_), Sl a5 ((((ownerWant ko x2).1).wanted).length) c5, I (((ownerWant ko x2).1).had)]), (67, .agg #[Sr (((ownerWant ko x2).2.1).name), Sr (((ownerWant ko x2).2.1).value), U (((ownerWant ko x2).2.1).n), U (((ownerWant ko x2).2.1).tag)]), (68, I ((ownerWant ko x2).2.2))] ?_
     refine runL_box 15 #[Sr ([]), U 0, I 0, U 0, U 0, I 0, Sl none 0 0, I 0] 92 (fun b5 => ?_)
     refine runL_box 16 #[Sr ([]), Sr ([]), U 0, U 0] 54 (fun b6 => ?_)
     refine runL_bs [5,3,0] [(1, Sr name), (3, Sl a_looks looks.length c_looks), (9, Pt b1 0), (11, Pt b3 0), (13, I (i : Int)), (15, Pt b5 0), (16, Pt b6 0), (17, I ((ownerWant ko x2).2.2)), (53, Sl (At b4 o2) values.length c_values), (54, I (values.length : Int)), (55, I (i : Int))] [[Sg b6 0 [Sr (((ownerWant ko x2).2.1).name), Sr (((ownerWant ko x2).2.1).value), U (((ownerWant ko x2).2.1).n), U (((ownerWant ko x2).2.1).tag)]], [Sg b5 0 [Sr (((ownerWant ko x2).1).name), U (((ownerWant ko x2).1).key), I (((ownerWant ko x2).1).head.epoch), U (((ownerWant ko x2).1).head.root), U (((ownerWant ko x2).1).head.prev), I (((ownerWant ko x2).1).head.at_), Sl a5 ((((ownerWant ko x2).1).wanted).length) c5, I (((ownerWant ko x2).1).had)]], [Sg b3 0 [Sr ko.name, U ko.key, I ko.head.epoch, U ko.head.root, U ko.head.prev, I ko.head.at_, Sl ako0 ko.wanted.length cko0, I ko.had]], [Sg b1 0 [I kc.queue.most, Sl akc0 kc.queue.wait.length ckc0, I kc.batch, I kc.every, I kc.now, Sl akc1 kc.heads.length ckc1, Sl akc2 kc.books.length ckc2]]] (runL_nil (tq_then ?_))
     refine tc_meet (σ := ClerkD × (Option Addr) × Nat × (Option Addr) × Nat × (Option Addr) × Nat × OwnerD × (Option Addr) × Nat × Mem) (fun q_ => (Mem.le G3 q_.2.2.2.2.2.2.2.2.2.2) ∧ (-9223372036854775808 ≤ q_.1.queue.most ∧ q_.1.queue.most < 9223372036854775808) ∧ (RS EAsk q_.2.2.2.2.2.2.2.2.2.2 q_.2.1 q_.2.2.1 q_.1.queue.wait) ∧ (-9223372036854775808 ≤ q_.1.batch ∧ q_.1.batch < 9223372036854775808) ∧ (-9223372036854775808 ≤ q_.1.every ∧ q_.1.every < 9223372036854775808) ∧ (-9223372036854775808 ≤ q_.1.now ∧ q_.1.now < 9223372036854775808) ∧ (RS EHead q_.2.2.2.2.2.2.2.2.2.2 q_.2.2.2.1 q_.2.2.2.2.1 q_.1.heads) ∧ (RS ESlEnt q_.2.2.2.2.2.2.2.2.2.2 q_.2.2.2.2.2.1 q_.2.2.2.2.2.2.1 q_.1.books) ∧ ((q_.2.2.2.2.2.2.2.1.name).length ≤ 140737488351232) ∧ (0 ≤ q_.2.2.2.2.2.2.2.1.key ∧ q_.2.2.2.2.2.2.2.1.key < 18446744073709551616) ∧ (-9223372036854775808 ≤ q_.2.2.2.2.2.2.2.1.head.epoch ∧ q_.2.2.2.2.2.2.2.1.head.epoch < 9223372036854775808) ∧ (0 ≤ q_.2.2.2.2.2.2.2.1.head.root ∧ q_.2.2.2.2.2.2.2.1.head.root < 18446744073709551616) ∧ (0 ≤ q_.2.2.2.2.2.2.2.1.head.prev ∧ q_.2.2.2.2.2.2.2.1.head.prev < 18446744073709551616) ∧ (-9223372036854775808 ≤ q_.2.2.2.2.2.2.2.1.head.at_ ∧ q_.2.2.2.2.2.2.2.1.head.at_ < 9223372036854775808) ∧ (RS ES q_.2.2.2.2.2.2.2.2.2.2 q_.2.2.2.2.2.2.2.2.1 q_.2.2.2.2.2.2.2.2.2.1 q_.2.2.2.2.2.2.2.1.wanted) ∧ (-9223372036854775808 ≤ q_.2.2.2.2.2.2.2.1.had ∧ q_.2.2.2.2.2.2.2.1.had < 9223372036854775808) ∧ (calmEx name q_.1 q_.2.2.2.2.2.2.2.1)) (fun q_ => [(1, Sr name), (3, Sl a_looks looks.length c_looks), (9, Pt b1 0), (11, Pt b3 0), (13, I (i : Int)), (53, Sl (At b4 o2) values.length c_values), (54, I (values.length : Int)), (55, I (i : Int))]) (fun q_ => q_.2.2.2.2.2.2.2.2.2.2) (fun q_ => [[Sg b6 0 [Sr (((ownerWant ko x2).2.1).name), Sr (((ownerWant ko x2).2.1).value), U (((ownerWant ko x2).2.1).n), U (((ownerWant ko x2).2.1).tag)]], [Sg b5 0 [Sr (((ownerWant ko x2).1).name), U (((ownerWant ko x2).1).key), I (((ownerWant ko x2).1).head.epoch), U (((ownerWant ko x2).1).head.root), U (((ownerWant ko x2).1).head.prev), I (((ownerWant ko x2).1).head.at_), Sl a5 ((((ownerWant ko x2).1).wanted).length) c5, I (((ownerWant ko x2).1).had)]], [Sg b3 0 [Sr q_.2.2.2.2.2.2.2.1.name, U q_.2.2.2.2.2.2.2.1.key, I q_.2.2.2.2.2.2.2.1.head.epoch, U q_.2.2.2.2.2.2.2.1.head.root, U q_.2.2.2.2.2.2.2.1.head.prev, I q_.2.2.2.2.2.2.2.1.head.at_, Sl q_.2.2.2.2.2.2.2.2.1 q_.2.2.2.2.2.2.2.1.wanted.length q_.2.2.2.2.2.2.2.2.2.1, I q_.2.2.2.2.2.2.2.1.had]], [Sg b1 0 [I q_.1.queue.most, Sl q_.2.1 q_.1.queue.wait.length q_.2.2.1, I q_.1.batch, I q_.1.every, I q_.1.now, Sl q_.2.2.2.1 q_.1.heads.length q_.2.2.2.2.1, Sl q_.2.2.2.2.2.1 q_.1.books.length q_.2.2.2.2.2.2.1]]]) ?_ (fun q_ hs => ?_)
     ·
      refine tc_rb [0,0] [(1, Sr name), (3, Sl a_looks looks.length c_looks), (9, Pt b1 0), (11, Pt b3 0), (13, I (i : Int)), (15, Pt b5 0), (16, Pt b6 0), (53, Sl (At b4 o2) values.length c_values), (54, I (values.length : Int)), (55, I (i : Int)), (70, Bo (decide ((ownerWant ko x2).2.2 = 0)))] ?_
      refine tc_cond (decide ((ownerWant ko x2).2.2 = 0)) (fun h5 => ?_) (fun h5 => ?_)
      ·
       try simp only [BB] at h5
       refine tc_seq (tc_region ?_)
       refine runL_b [8,2] [(1, Sr name), (3, Sl a_looks looks.length c_looks), (9, Pt b1 0), (11, Pt b3 0), (13, I (i : Int)), (15, Pt b5 0), (53, Sl (At b4 o2) values.length c_values), (54, I (values.length : Int)), (55, I (i : Int)), (72, .agg #[I kc.queue.most, Sl akc0 kc.queue.wait.length ckc0, I kc.batch, I kc.every, I kc.now, Sl akc1 kc.heads.length ckc1, Sl akc2 kc.books.length ckc2]), (73, .agg #[Sr (((ownerWant ko x2).2.1).name), Sr (((ownerWant ko x2).2.1).value), U (((ownerWant ko x2).2.1).n), U (((ownerWant ko x2).2.1).tag)])] ?_
       refine runL_callR 74 (clerkAsk_con G3 [I kc.queue.most, Sl akc0 kc.queue.wait.length ckc0, I kc.batch, I kc.every, I kc.now, Sl akc1 kc.heads.length ckc1, Sl akc2 kc.books.length ckc2] kc (⟨akc0, ckc0, akc1, ckc1, akc2, ckc2, rfl, hkc0, (hkc1.mono hl3), hkc2, hkc3, hkc4, (hkc5.mono hl3), (hkc6.mono hl3)⟩) [Sr (((ownerWant ko x2).2.1).name), Sr (((ownerWant ko x2).2.1).value), U (((ownerWant ko x2).2.1).n), U (((ownerWant ko x2).2.1).tag)] ((ownerWant ko x2).2.1) (⟨rfl, w24, w25, w26, w27⟩)) (fun v G4 L1 hl4 hp => ?_)
       obtain ⟨a6, c6, a7, c7, a8, c8, rfl, w28, hs6, w29, w30, w31, hs7, hs8, w32, rfl⟩ := hp
       refine runL_b [0,0,0,0] [(1, Sr name), (3, Sl a_looks looks.length c_looks), (9, Pt b1 0), (11, Pt b3 0), (13, I (i : Int)), (15, Pt b5 0), (53, Sl (At b4 o2) values.length c_values), (54, I (values.length : Int)), (55, I (i : Int)), (75, .agg #[I (((clerkAsk kc ((ownerWant ko x2).2.1)).1).queue.most), Sl a6 ((((clerkAsk kc ((ownerWant ko x2).2.1)).1).queue.wait).length) c6, I (((clerkAsk kc ((ownerWant ko x2).2.1)).1).batch), I (((clerkAsk kc ((ownerWant ko x2).2.1)).1).every), I (((clerkAsk kc ((ownerWant ko x2).2.1)).1).now), Sl a7 ((((clerkAsk kc ((ownerWant ko x2).2.1)).1).heads).length) c7, Sl a8 ((((clerkAsk kc ((ownerWant ko x2).2.1)).1).books).length) c8]), (76, I ((clerkAsk kc ((ownerWant ko x2).2.1)).2.1)), (77, I ((clerkAsk kc ((ownerWant ko x2).2.1)).2.2))] ?_
       refine runL_box 18 #[I 0, Sl none 0 0, I 0, I 0, I 0, Sl none 0 0, Sl none 0 0] 28 (fun b7 => ?_)
       refine runL_bs [3,0,0] [(1, Sr name), (3, Sl a_looks looks.length c_looks), (9, Pt b1 0), (11, Pt b3 0), (13, I (i : Int)), (15, Pt b5 0), (18, Pt b7 0), (20, I ((clerkAsk kc ((ownerWant ko x2).2.1)).2.2)), (53, Sl (At b4 o2) values.length c_values), (54, I (values.length : Int)), (55, I (i : Int))] [[Sg b7 0 [I (((clerkAsk kc ((ownerWant ko x2).2.1)).1).queue.most), Sl a6 ((((clerkAsk kc ((ownerWant ko x2).2.1)).1).queue.wait).length) c6, I (((clerkAsk kc ((ownerWant ko x2).2.1)).1).batch), I (((clerkAsk kc ((ownerWant ko x2).2.1)).1).every), I (((clerkAsk kc ((ownerWant ko x2).2.1)).1).now), Sl a7 ((((clerkAsk kc ((ownerWant ko x2).2.1)).1).heads).length) c7, Sl a8 ((((clerkAsk kc ((ownerWant ko x2).2.1)).1).books).length) c8]], [Sg b6 0 [Sr (((ownerWant ko x2).2.1).name), Sr (((ownerWant ko x2).2.1).value), U (((ownerWant ko x2).2.1).n), U (((ownerWant ko x2).2.1).tag)]], [Sg b5 0 [Sr (((ownerWant ko x2).1).name), U (((ownerWant ko x2).1).key), I (((ownerWant ko x2).1).head.epoch), U (((ownerWant ko x2).1).head.root), U (((ownerWant ko x2).1).head.prev), I (((ownerWant ko x2).1).head.at_), Sl a5 ((((ownerWant ko x2).1).wanted).length) c5, I (((ownerWant ko x2).1).had)]], [Sg b3 0 [Sr ko.name, U ko.key, I ko.head.epoch, U ko.head.root, U ko.head.prev, I ko.head.at_, Sl ako0 ko.wanted.length cko0, I ko.had]], [Sg b1 0 [I kc.queue.most, Sl akc0 kc.queue.wait.length ckc0, I kc.batch, I kc.every, I kc.now, Sl akc1 kc.heads.length ckc1, Sl akc2 kc.books.length ckc2]]] (runL_nil (tq_then ?_))
       refine tc_rb [0,0] [(1, Sr name), (3, Sl a_looks looks.length c_looks), (9, Pt b1 0), (11, Pt b3 0), (13, I (i : Int)), (15, Pt b5 0), (18, Pt b7 0), (53, Sl (At b4 o2) values.length c_values), (54, I (values.length : Int)), (55, I (i : Int)), (79, Bo (decide ((clerkAsk kc ((ownerWant ko x2).2.1)).2.2 = 0)))] ?_
       refine tc_cond (decide ((clerkAsk kc ((ownerWant ko x2).2.1)).2.2 = 0)) (fun h6 => ?_) (fun h6 => ?_)
       ·
        try simp only [BB] at h6
        refine tc_draw [2, 3] ?_
        refine dr_V [(0, .agg #[Sr (((ownerWant ko x2).1).name), U (((ownerWant ko x2).1).key), I (((ownerWant ko x2).1).head.epoch), U (((ownerWant ko x2).1).head.root), U (((ownerWant ko x2).1).head.prev), I (((ownerWant ko x2).1).head.at_), Sl a5 ((((ownerWant ko x2).1).wanted).length) c5, I (((ownerWant ko x2).1).had)]), (1, .agg #[I (((clerkAsk kc ((ownerWant ko x2).2.1)).1).queue.most), Sl a6 ((((clerkAsk kc ((ownerWant ko x2).2.1)).1).queue.wait).length) c6, I (((clerkAsk kc ((ownerWant ko x2).2.1)).1).batch), I (((clerkAsk kc ((ownerWant ko x2).2.1)).1).every), I (((clerkAsk kc ((ownerWant ko x2).2.1)).1).now), Sl a7 ((((clerkAsk kc ((ownerWant ko x2).2.1)).1).heads).length) c7, Sl a8 ((((clerkAsk kc ((ownerWant ko x2).2.1)).1).books).length) c8])] ?_
        refine dr_mid [] [(0,6), (1,2)] [] [2] (List.forall_mem_nil _) (List.forall_mem_cons.2 ⟨?_, List.forall_mem_nil _⟩)
        refine act_of 2 [(11, Pt b3 0), (80, .agg #[Sr (((ownerWant ko x2).1).name), U (((ownerWant ko x2).1).key), I (((ownerWant ko x2).1).head.epoch), U (((ownerWant ko x2).1).head.root), U (((ownerWant ko x2).1).head.prev), I (((ownerWant ko x2).1).head.at_), Sl a5 ((((ownerWant ko x2).1).wanted).length) c5, I (((ownerWant ko x2).1).had)])] (fun X => ?_)
        refine runL_st 3 [[Sg b7 0 [I (((clerkAsk kc ((ownerWant ko x2).2.1)).1).queue.most), Sl a6 ((((clerkAsk kc ((ownerWant ko x2).2.1)).1).queue.wait).length) c6, I (((clerkAsk kc ((ownerWant ko x2).2.1)).1).batch), I (((clerkAsk kc ((ownerWant ko x2).2.1)).1).every), I (((clerkAsk kc ((ownerWant ko x2).2.1)).1).now), Sl a7 ((((clerkAsk kc ((ownerWant ko x2).2.1)).1).heads).length) c7, Sl a8 ((((clerkAsk kc ((ownerWant ko x2).2.1)).1).books).length) c8]], [Sg b6 0 [Sr (((ownerWant ko x2).2.1).name), Sr (((ownerWant ko x2).2.1).value), U (((ownerWant ko x2).2.1).n), U (((ownerWant ko x2).2.1).tag)]], [Sg b5 0 [Sr (((ownerWant ko x2).1).name), U (((ownerWant ko x2).1).key), I (((ownerWant ko x2).1).head.epoch), U (((ownerWant ko x2).1).head.root), U (((ownerWant ko x2).1).head.prev), I (((ownerWant ko x2).1).head.at_), Sl a5 ((((ownerWant ko x2).1).wanted).length) c5, I (((ownerWant ko x2).1).had)]], [Sg b3 0 [Sr (((ownerWant ko x2).1).name), U (((ownerWant ko x2).1).key), I (((ownerWant ko x2).1).head.epoch), U (((ownerWant ko x2).1).head.root), U (((ownerWant ko x2).1).head.prev), I (((ownerWant ko x2).1).head.at_), Sl a5 ((((ownerWant ko x2).1).wanted).length) c5, I (((ownerWant ko x2).1).had)]], [Sg b1 0 [I kc.queue.most, Sl akc0 kc.queue.wait.length ckc0, I kc.batch, I kc.every, I kc.now, Sl akc1 kc.heads.length ckc1, Sl akc2 kc.books.length ckc2]]] ?_
        refine act_end0 (V' := [(0, .agg #[Sr (((ownerWant ko x2).1).name), U (((ownerWant ko x2).1).key), I (((ownerWant ko x2).1).head.epoch), U (((ownerWant ko x2).1).head.root), U (((ownerWant ko x2).1).head.prev), I (((ownerWant ko x2).1).head.at_), Sl a5 ((((ownerWant ko x2).1).wanted).length) c5, I (((ownerWant ko x2).1).had)]), (1, .agg #[I (((clerkAsk kc ((ownerWant ko x2).2.1)).1).queue.most), Sl a6 ((((clerkAsk kc ((ownerWant ko x2).2.1)).1).queue.wait).length) c6, I (((clerkAsk kc ((ownerWant ko x2).2.1)).1).batch), I (((clerkAsk kc ((ownerWant ko x2).2.1)).1).every), I (((clerkAsk kc ((ownerWant ko x2).2.1)).1).now), Sl a7 ((((clerkAsk kc ((ownerWant ko x2).2.1)).1).heads).length) c7, Sl a8 ((((clerkAsk kc ((ownerWant ko x2).2.1)).1).books).length) c8])]) ?_
        refine dr_mid [0] [(1,2)] [] [3] (List.forall_mem_nil _) (List.forall_mem_cons.2 ⟨?_, List.forall_mem_nil _⟩)
        refine act_of 3 [(9, Pt b1 0), (81, .agg #[I (((clerkAsk kc ((ownerWant ko x2).2.1)).1).queue.most), Sl a6 ((((clerkAsk kc ((ownerWant ko x2).2.1)).1).queue.wait).length) c6, I (((clerkAsk kc ((ownerWant ko x2).2.1)).1).batch), I (((clerkAsk kc ((ownerWant ko x2).2.1)).1).every), I (((clerkAsk kc ((ownerWant ko x2).2.1)).1).now), Sl a7 ((((clerkAsk kc ((ownerWant ko x2).2.1)).1).heads).length) c7, Sl a8 ((((clerkAsk kc ((ownerWant ko x2).2.1)).1).books).length) c8])] (fun X => ?_)
        refine runL_st 4 [[Sg b7 0 [I (((clerkAsk kc ((ownerWant ko x2).2.1)).1).queue.most), Sl a6 ((((clerkAsk kc ((ownerWant ko x2).2.1)).1).queue.wait).length) c6, I (((clerkAsk kc ((ownerWant ko x2).2.1)).1).batch), I (((clerkAsk kc ((ownerWant ko x2).2.1)).1).every), I (((clerkAsk kc ((ownerWant ko x2).2.1)).1).now), Sl a7 ((((clerkAsk kc ((ownerWant ko x2).2.1)).1).heads).length) c7, Sl a8 ((((clerkAsk kc ((ownerWant ko x2).2.1)).1).books).length) c8]], [Sg b6 0 [Sr (((ownerWant ko x2).2.1).name), Sr (((ownerWant ko x2).2.1).value), U (((ownerWant ko x2).2.1).n), U (((ownerWant ko x2).2.1).tag)]], [Sg b5 0 [Sr (((ownerWant ko x2).1).name), U (((ownerWant ko x2).1).key), I (((ownerWant ko x2).1).head.epoch), U (((ownerWant ko x2).1).head.root), U (((ownerWant ko x2).1).head.prev), I (((ownerWant ko x2).1).head.at_), Sl a5 ((((ownerWant ko x2).1).wanted).length) c5, I (((ownerWant ko x2).1).had)]], [Sg b3 0 [Sr (((ownerWant ko x2).1).name), U (((ownerWant ko x2).1).key), I (((ownerWant ko x2).1).head.epoch), U (((ownerWant ko x2).1).head.root), U (((ownerWant ko x2).1).head.prev), I (((ownerWant ko x2).1).head.at_), Sl a5 ((((ownerWant ko x2).1).wanted).length) c5, I (((ownerWant ko x2).1).had)]], [Sg b1 0 [I (((clerkAsk kc ((ownerWant ko x2).2.1)).1).queue.most), Sl a6 ((((clerkAsk kc ((ownerWant ko x2).2.1)).1).queue.wait).length) c6, I (((clerkAsk kc ((ownerWant ko x2).2.1)).1).batch), I (((clerkAsk kc ((ownerWant ko x2).2.1)).1).every), I (((clerkAsk kc ((ownerWant ko x2).2.1)).1).now), Sl a7 ((((clerkAsk kc ((ownerWant ko x2).2.1)).1).heads).length) c7, Sl a8 ((((clerkAsk kc ((ownerWant ko x2).2.1)).1).books).length) c8]]] ?_
        refine act_end0 (V' := [(0, .agg #[Sr (((ownerWant ko x2).1).name), U (((ownerWant ko x2).1).key), I (((ownerWant ko x2).1).head.epoch), U (((ownerWant ko x2).1).head.root), U (((ownerWant ko x2).1).head.prev), I (((ownerWant ko x2).1).head.at_), Sl a5 ((((ownerWant ko x2).1).wanted).length) c5, I (((ownerWant ko x2).1).had)]), (1, .agg #[I (((clerkAsk kc ((ownerWant ko x2).2.1)).1).queue.most), Sl a6 ((((clerkAsk kc ((ownerWant ko x2).2.1)).1).queue.wait).length) c6, I (((clerkAsk kc ((ownerWant ko x2).2.1)).1).batch), I (((clerkAsk kc ((ownerWant ko x2).2.1)).1).every), I (((clerkAsk kc ((ownerWant ko x2).2.1)).1).now), Sl a7 ((((clerkAsk kc ((ownerWant ko x2).2.1)).1).heads).length) c7, Sl a8 ((((clerkAsk kc ((ownerWant ko x2).2.1)).1).books).length) c8])]) ?_
        refine dr_end [0, 1] [] [] [(1, Sr name), (3, Sl a_looks looks.length c_looks), (9, Pt b1 0), (11, Pt b3 0), (13, I (i : Int)), (53, Sl (At b4 o2) values.length c_values), (54, I (values.length : Int)), (55, I (i : Int))] (List.forall_mem_nil _) ?_
        refine tq_owns [[Sg b6 0 [Sr (((ownerWant ko x2).2.1).name), Sr (((ownerWant ko x2).2.1).value), U (((ownerWant ko x2).2.1).n), U (((ownerWant ko x2).2.1).tag)]], [Sg b5 0 [Sr (((ownerWant ko x2).1).name), U (((ownerWant ko x2).1).key), I (((ownerWant ko x2).1).head.epoch), U (((ownerWant ko x2).1).head.root), U (((ownerWant ko x2).1).head.prev), I (((ownerWant ko x2).1).head.at_), Sl a5 ((((ownerWant ko x2).1).wanted).length) c5, I (((ownerWant ko x2).1).had)]], [Sg b3 0 [Sr (((ownerWant ko x2).1).name), U (((ownerWant ko x2).1).key), I (((ownerWant ko x2).1).head.epoch), U (((ownerWant ko x2).1).head.root), U (((ownerWant ko x2).1).head.prev), I (((ownerWant ko x2).1).head.at_), Sl a5 ((((ownerWant ko x2).1).wanted).length) c5, I (((ownerWant ko x2).1).had)]], [Sg b1 0 [I (((clerkAsk kc ((ownerWant ko x2).2.1)).1).queue.most), Sl a6 ((((clerkAsk kc ((ownerWant ko x2).2.1)).1).queue.wait).length) c6, I (((clerkAsk kc ((ownerWant ko x2).2.1)).1).batch), I (((clerkAsk kc ((ownerWant ko x2).2.1)).1).every), I (((clerkAsk kc ((ownerWant ko x2).2.1)).1).now), Sl a7 ((((clerkAsk kc ((ownerWant ko x2).2.1)).1).heads).length) c7, Sl a8 ((((clerkAsk kc ((ownerWant ko x2).2.1)).1).books).length) c8]]] (.cons _ (.cons_cons _ (.cons_cons _ (.cons_cons _ (.cons_cons _ .slnil))))) ?_
        exact tq_meet (((clerkAsk kc ((ownerWant ko x2).2.1)).1), a6, c6, a7, c7, a8, c8, ((ownerWant ko x2).1), a5, c5, G4) ⟨hl4, w28, hs6, w29, w30, w31, hs7, hs8, w17, w18, w19, w20, w21, w22, (hs5.mono hl4), w23, (by (try dsimp only); first | exact hI | exact ex_ask hI (by assumption) (by assumption))⟩
       ·
        try simp only [BB] at h6
        refine tc_skip ?_
        refine tq_owns [[Sg b6 0 [Sr (((ownerWant ko x2).2.1).name), Sr (((ownerWant ko x2).2.1).value), U (((ownerWant ko x2).2.1).n), U (((ownerWant ko x2).2.1).tag)]], [Sg b5 0 [Sr (((ownerWant ko x2).1).name), U (((ownerWant ko x2).1).key), I (((ownerWant ko x2).1).head.epoch), U (((ownerWant ko x2).1).head.root), U (((ownerWant ko x2).1).head.prev), I (((ownerWant ko x2).1).head.at_), Sl a5 ((((ownerWant ko x2).1).wanted).length) c5, I (((ownerWant ko x2).1).had)]], [Sg b3 0 [Sr ko.name, U ko.key, I ko.head.epoch, U ko.head.root, U ko.head.prev, I ko.head.at_, Sl ako0 ko.wanted.length cko0, I ko.had]], [Sg b1 0 [I kc.queue.most, Sl akc0 kc.queue.wait.length ckc0, I kc.batch, I kc.every, I kc.now, Sl akc1 kc.heads.length ckc1, Sl akc2 kc.books.length ckc2]]] (.cons _ (.cons_cons _ (.cons_cons _ (.cons_cons _ (.cons_cons _ .slnil))))) ?_
        exact tq_meet (kc, akc0, ckc0, akc1, ckc1, akc2, ckc2, ko, ako0, cko0, G4) ⟨hl4, hkc0, (hkc1.mono (Mem.le_trans hl3 hl4)), hkc2, hkc3, hkc4, (hkc5.mono (Mem.le_trans hl3 hl4)), (hkc6.mono (Mem.le_trans hl3 hl4)), hko0, hko1, hko2, hko3, hko4, hko5, (hko6.mono (Mem.le_trans hl3 hl4)), hko7, (by (try dsimp only); first | exact hI | exact ex_ask hI (by assumption) (by assumption))⟩
      ·
       try simp only [BB] at h5
       refine tc_skip ?_
       exact tq_meet (kc, akc0, ckc0, akc1, ckc1, akc2, ckc2, ko, ako0, cko0, G3) ⟨(Mem.le_refl _), hkc0, (hkc1.mono hl3), hkc2, hkc3, hkc4, (hkc5.mono hl3), (hkc6.mono hl3), hko0, hko1, hko2, hko3, hko4, hko5, (hko6.mono hl3), hko7, (by (try dsimp only); first | exact hI | exact ex_ask hI (by assumption) (by assumption))⟩
     ·
      obtain ⟨jc, ajc0, cjc0, ajc1, cjc1, ajc2, cjc2, jo, ajo0, cjo0, g1_⟩ := q_
      obtain ⟨hle1_, hjc0, hjc1, hjc2, hjc3, hjc4, hjc5, hjc6, hjo0, hjo1, hjo2, hjo3, hjo4, hjo5, hjo6, hjo7, hJ⟩ := hs
      dsimp only at hle1_ hjc0 hjc1 hjc2 hjc3 hjc4 hjc5 hjc6 hjo0 hjo1 hjo2 hjo3 hjo4 hjo5 hjo6 hjo7 hJ
      refine tc_eq (fr' := [(1, Sr name), (3, Sl a_looks looks.length c_looks), (9, Pt b1 0), (11, Pt b3 0), (13, I (i : Int)), (53, Sl (At b4 o2) values.length c_values), (54, I (values.length : Int)), (55, I (i : Int))]) (L' := [[Sg b6 0 [Sr (((ownerWant ko x2).2.1).name), Sr (((ownerWant ko x2).2.1).value), U (((ownerWant ko x2).2.1).n), U (((ownerWant ko x2).2.1).tag)]], [Sg b5 0 [Sr (((ownerWant ko x2).1).name), U (((ownerWant ko x2).1).key), I (((ownerWant ko x2).1).head.epoch), U (((ownerWant ko x2).1).head.root), U (((ownerWant ko x2).1).head.prev), I (((ownerWant ko x2).1).head.at_), Sl a5 ((((ownerWant ko x2).1).wanted).length) c5, I (((ownerWant ko x2).1).had)]], [Sg b3 0 [Sr jo.name, U jo.key, I jo.head.epoch, U jo.head.root, U jo.head.prev, I jo.head.at_, Sl ajo0 jo.wanted.length cjo0, I jo.had]], [Sg b1 0 [I jc.queue.most, Sl ajc0 jc.queue.wait.length cjc0, I jc.batch, I jc.every, I jc.now, Sl ajc1 jc.heads.length cjc1, Sl ajc2 jc.books.length cjc2]]]) rfl rfl ?_
      refine tc_seq (tc_seq (tc_region ?_))
      refine runL_b [8] [(1, Sr name), (3, Sl a_looks looks.length c_looks), (9, Pt b1 0), (11, Pt b3 0), (13, I (i : Int)), (53, Sl (At b4 o2) values.length c_values), (54, I (values.length : Int)), (55, I (i : Int)), (83, .agg #[I jc.queue.most, Sl ajc0 jc.queue.wait.length cjc0, I jc.batch, I jc.every, I jc.now, Sl ajc1 jc.heads.length cjc1, Sl ajc2 jc.books.length cjc2])] ?_
      refine runL_callR 84 (clerkTick_con g1_ [I jc.queue.most, Sl ajc0 jc.queue.wait.length cjc0, I jc.batch, I jc.every, I jc.now, Sl ajc1 jc.heads.length cjc1, Sl ajc2 jc.books.length cjc2] jc (⟨ajc0, cjc0, ajc1, cjc1, ajc2, cjc2, rfl, hjc0, hjc1, hjc2, hjc3, hjc4, hjc5, hjc6⟩)) (fun v G5 L1 hl5 hp => ?_)
      obtain ⟨a9, c9, a10, c10, a11, c11, rfl, w33, hs9, w34, w35, w36, hs10, hs11, rfl⟩ := hp
      refine runL_bs [0,0,0,0,9,0] [(1, Sr name), (3, Sl a_looks looks.length c_looks), (9, Pt b1 0), (11, Pt b3 0), (13, I (i : Int)), (17, I ((clerkTick jc).2.2)), (53, Sl (At b4 o2) values.length c_values), (54, I (values.length : Int)), (55, I (i : Int))] [[Sg b6 0 [Sr (((ownerWant ko x2).2.1).name), Sr (((ownerWant ko x2).2.1).value), U (((ownerWant ko x2).2.1).n), U (((ownerWant ko x2).2.1).tag)]], [Sg b5 0 [Sr (((ownerWant ko x2).1).name), U (((ownerWant ko x2).1).key), I (((ownerWant ko x2).1).head.epoch), U (((ownerWant ko x2).1).head.root), U (((ownerWant ko x2).1).head.prev), I (((ownerWant ko x2).1).head.at_), Sl a5 ((((ownerWant ko x2).1).wanted).length) c5, I (((ownerWant ko x2).1).had)]], [Sg b3 0 [Sr jo.name, U jo.key, I jo.head.epoch, U jo.head.root, U jo.head.prev, I jo.head.at_, Sl ajo0 jo.wanted.length cjo0, I jo.had]], [Sg b1 0 [I (((clerkTick jc).1).queue.most), Sl a9 ((((clerkTick jc).1).queue.wait).length) c9, I (((clerkTick jc).1).batch), I (((clerkTick jc).1).every), I (((clerkTick jc).1).now), Sl a10 ((((clerkTick jc).1).heads).length) c10, Sl a11 ((((clerkTick jc).1).books).length) c11]]] (runL_nil (tq_then ?_))
      refine tc_rb [0,0] [(1, Sr name), (3, Sl a_looks looks.length c_looks), (9, Pt b1 0), (11, Pt b3 0), (13, I (i : Int)), (53, Sl (At b4 o2) values.length c_values), (54, I (values.length : Int)), (55, I (i : Int)), (89, Bo (!decide ((clerkTick jc).2.2 = 0)))] ?_
      refine tc_cond (!decide ((clerkTick jc).2.2 = 0)) (fun h7 => ?_) (fun h7 => ?_)
      ·
       try simp only [BB] at h7
       refine tc_rb [0] [(8, Bo false)] (tc_ret (tq_then_ret (tq_block_ret (tq_then_ret (tq_rnd_ret (tq_block_ret (tq_then_ret ?_)))))))
       refine tq_ret [0] [Bo false] (bp_ret (Mem.le_trans (Mem.le_trans (Mem.le_trans (Mem.le_trans (Mem.le_trans hl1 hl2) hle) hl3) hle1_) hl5) ?_)
       exfalso
       first | rfl | (exact absurd calm0_new.1 (by assumption)) | (rw [ownerNew_err (by assumption)]; rfl) | (exact absurd (ex_tick0 hJ) (by assumption)) | (have q_ := ex_see0 (ex_tick hJ) hfb.2.2.1 hfb.2.2.2.1 hfb.2.1 hfb.2.2.2.2; simp_all; done) | (have q_ := ex_see0 (ex_tick hJ) hfb.2.2.1 hfb.2.2.2.1 hfb.2.1 hfb.2.2.2.2; simp_all; omega)
      ·
       try simp only [BB] at h7
       refine tc_skip (tq_then (tc_seq ?_))
       refine tc_rb [0,0,0,0] [(1, Sr name), (3, Sl a_looks looks.length c_looks), (9, Pt b1 0), (11, Pt b3 0), (13, I (i : Int)), (53, Sl (At b4 o2) values.length c_values), (54, I (values.length : Int)), (55, I (i : Int)), (93, Bo (decide ((i : Int) ≥ (looks.length : Int))))] ?_
       refine tc_cond (decide ((i : Int) ≥ (looks.length : Int))) (fun h8 => ?_) (fun h8 => ?_)
       ·
        try simp only [BB] at h8
        refine tc_exit (tq_then_exit (tq_block_here (tq_then (tc_region ?_))))
        refine runL_b [0,0] [(1, Sr name), (3, Sl a_looks looks.length c_looks), (9, Pt b1 0), (11, Pt b3 0), (53, Sl (At b4 o2) values.length c_values), (54, I (values.length : Int)), (55, I (IntKind.i64.wrap ((i : Int) + 1)))] ?_
        have e1 : IntKind.i64.wrap ((i : Int) + 1) = (i : Int) + 1 := IntWalk.i64_in _ (by first | omega | (have q_ := calm0_new.2.2.2.2; omega) | (have q_ := ex_facts hJ; omega) | (have q_ := ex_facts (ex_tick hJ); omega))
        refine runL_eq (fr' := [(1, Sr name), (3, Sl a_looks looks.length c_looks), (9, Pt b1 0), (11, Pt b3 0), (53, Sl (At b4 o2) values.length c_values), (54, I (values.length : Int)), (55, I ((i : Int) + 1))]) (L' := [[Sg b6 0 [Sr (((ownerWant ko x2).2.1).name), Sr (((ownerWant ko x2).2.1).value), U (((ownerWant ko x2).2.1).n), U (((ownerWant ko x2).2.1).tag)]], [Sg b5 0 [Sr (((ownerWant ko x2).1).name), U (((ownerWant ko x2).1).key), I (((ownerWant ko x2).1).head.epoch), U (((ownerWant ko x2).1).head.root), U (((ownerWant ko x2).1).head.prev), I (((ownerWant ko x2).1).head.at_), Sl a5 ((((ownerWant ko x2).1).wanted).length) c5, I (((ownerWant ko x2).1).had)]], [Sg b3 0 [Sr jo.name, U jo.key, I jo.head.epoch, U jo.head.root, U jo.head.prev, I jo.head.at_, Sl ajo0 jo.wanted.length cjo0, I jo.had]], [Sg b1 0 [I (((clerkTick jc).1).queue.most), Sl a9 ((((clerkTick jc).1).queue.wait).length) c9, I (((clerkTick jc).1).batch), I (((clerkTick jc).1).every), I (((clerkTick jc).1).now), Sl a10 ((((clerkTick jc).1).heads).length) c10, Sl a11 ((((clerkTick jc).1).books).length) c11]]]) (by simp only [e1]) (by rfl) ?_
        clear e1
        refine runL_nil ?_
        refine tq_owns [[Sg b3 0 [Sr jo.name, U jo.key, I jo.head.epoch, U jo.head.root, U jo.head.prev, I jo.head.at_, Sl ajo0 jo.wanted.length cjo0, I jo.had]], [Sg b1 0 [I (((clerkTick jc).1).queue.most), Sl a9 ((((clerkTick jc).1).queue.wait).length) c9, I (((clerkTick jc).1).batch), I (((clerkTick jc).1).every), I (((clerkTick jc).1).now), Sl a10 ((((clerkTick jc).1).heads).length) c10, Sl a11 ((((clerkTick jc).1).books).length) c11]]] (.cons _ (.cons _ (.cons_cons _ (.cons_cons _ .slnil)))) ?_
        exact tq_rnd (i + 1, ((clerkTick jc).1), a9, c9, a10, c10, a11, c11, jo, ajo0, cjo0, G5) ⟨(Mem.le_trans hle (Mem.le_trans (Mem.le_trans hl3 hle1_) hl5)), (by omega), (by first | assumption | omega | (simp; done) | (simp; omega)), hs9, (by first | assumption | omega | (simp; done) | (simp; omega)), (by first | assumption | omega | (simp; done) | (simp; omega)), (by first | assumption | omega | (simp; done) | (simp; omega)), hs10, hs11, (by first | assumption | omega | (simp; done) | (simp; omega)), (by first | assumption | omega | (simp; done) | (simp; omega)), (by first | assumption | omega | (simp; done) | (simp; omega)), (by first | assumption | omega | (simp; done) | (simp; omega)), (by first | assumption | omega | (simp; done) | (simp; omega)), (by first | assumption | omega | (simp; done) | (simp; omega)), (hjo6.mono hl5), (by first | assumption | omega | (simp; done) | (simp; omega)), (by (try dsimp only); first | exact ex_see (ex_tick hJ) hfb.2.2.1 hfb.2.2.2.1 hfb.2.1 hfb.2.2.2.2 | exact (ex_tick hJ))⟩ (by (try dsimp only); omega)
       ·
        try simp only [BB] at h8
        refine tc_skip (tq_then ?_)
        refine tc_rb [0,8,0,0,0] [(1, Sr name), (3, Sl a_looks looks.length c_looks), (9, Pt b1 0), (11, Pt b3 0), (13, I (i : Int)), (21, I (IntKind.i64.wrap (((((clerkTick jc).1).heads).length : Int) - 1))), (53, Sl (At b4 o2) values.length c_values), (54, I (values.length : Int)), (55, I (i : Int))] ?_
        have e2 : IntKind.i64.wrap (((((clerkTick jc).1).heads).length : Int) - 1) = ((((clerkTick jc).1).heads).length : Int) - 1 := IntWalk.i64_in _ (by first | omega | (have q_ := calm0_new.2.2.2.2; omega) | (have q_ := ex_facts hJ; omega) | (have q_ := ex_facts (ex_tick hJ); omega))
        refine tc_eq (fr' := [(1, Sr name), (3, Sl a_looks looks.length c_looks), (9, Pt b1 0), (11, Pt b3 0), (13, I (i : Int)), (21, I (((((clerkTick jc).1).heads).length : Int) - 1)), (53, Sl (At b4 o2) values.length c_values), (54, I (values.length : Int)), (55, I (i : Int))]) (L' := [[Sg b6 0 [Sr (((ownerWant ko x2).2.1).name), Sr (((ownerWant ko x2).2.1).value), U (((ownerWant ko x2).2.1).n), U (((ownerWant ko x2).2.1).tag)]], [Sg b5 0 [Sr (((ownerWant ko x2).1).name), U (((ownerWant ko x2).1).key), I (((ownerWant ko x2).1).head.epoch), U (((ownerWant ko x2).1).head.root), U (((ownerWant ko x2).1).head.prev), I (((ownerWant ko x2).1).head.at_), Sl a5 ((((ownerWant ko x2).1).wanted).length) c5, I (((ownerWant ko x2).1).had)]], [Sg b3 0 [Sr jo.name, U jo.key, I jo.head.epoch, U jo.head.root, U jo.head.prev, I jo.head.at_, Sl ajo0 jo.wanted.length cjo0, I jo.had]], [Sg b1 0 [I (((clerkTick jc).1).queue.most), Sl a9 ((((clerkTick jc).1).queue.wait).length) c9, I (((clerkTick jc).1).batch), I (((clerkTick jc).1).every), I (((clerkTick jc).1).now), Sl a10 ((((clerkTick jc).1).heads).length) c10, Sl a11 ((((clerkTick jc).1).books).length) c11]]]) (by simp only [e2]) (by rfl) ?_
        clear e2
        refine tc_seq (tc_region ?_)
        refine runL_b [0,0] [(1, Sr name), (3, Sl a_looks looks.length c_looks), (9, Pt b1 0), (11, Pt b3 0), (13, I (i : Int)), (21, I (((((clerkTick jc).1).heads).length : Int) - 1)), (53, Sl (At b4 o2) values.length c_values), (54, I (values.length : Int)), (55, I (i : Int)), (98, Sl a_looks looks.length c_looks), (99, I (i : Int))] ?_
        obtain ⟨b8, o3, rfl⟩ := RS.addr (h_looks.mono (Mem.le_trans (Mem.le_trans (Mem.le_trans (Mem.le_trans (Mem.le_trans hl1 hl2) hle) hl3) hle1_) hl5)) (k := i) (by first | omega | (have q_ := calm0_new.2.2.2.2; omega) | (have q_ := ex_facts hJ; omega) | (have q_ := ex_facts (ex_tick hJ); omega))
        obtain ⟨x3, hx3⟩ := getX (l := looks) (k := i) (by first | omega | (have q_ := calm0_new.2.2.2.2; omega) | (have q_ := ex_facts hJ; omega) | (have q_ := ex_facts (ex_tick hJ); omega))
        obtain ⟨_, ⟨rfl, w37, w38⟩, hc3⟩ := RS.get (h_looks.mono (Mem.le_trans (Mem.le_trans (Mem.le_trans (Mem.le_trans (Mem.le_trans hl1 hl2) hle) hl3) hle1_) hl5)) hx3
        refine runL_idx (b := b8) (off := o3) (len := looks.length) (cap := c_looks) (ik := .i64) 100 97 2 i (by first | omega | (have q_ := calm0_new.2.2.2.2; omega) | (have q_ := ex_facts hJ; omega) | (have q_ := ex_facts (ex_tick hJ); omega)) ?_
        refine runL_b [0] [(1, Sr name), (3, Sl (At b8 o3) looks.length c_looks), (9, Pt b1 0), (11, Pt b3 0), (13, I (i : Int)), (21, I (((((clerkTick jc).1).heads).length : Int) - 1)), (53, Sl (At b4 o2) values.length c_values), (54, I (values.length : Int)), (55, I (i : Int)), (101, Pt b8 (o3 + i * 2))] ?_
        refine runL_ldG 102 2 (cs := [I x3.x, I x3.y]) 0 (I x3.x) hc3 ?_
        refine runL_b [0,0,0,0] [(1, Sr name), (3, Sl (At b8 o3) looks.length c_looks), (9, Pt b1 0), (11, Pt b3 0), (13, I (i : Int)), (22, I (if (((((clerkTick jc).1).heads).length : Int) - 1) < (if 0 > x3.x then 0 else x3.x) then (((((clerkTick jc).1).heads).length : Int) - 1) else (if 0 > x3.x then 0 else x3.x))), (53, Sl (At b4 o2) values.length c_values), (54, I (values.length : Int)), (55, I (i : Int))] (runL_nil (tq_then ?_))
        obtain ⟨tb, htb⟩ : ∃ z_ : Int, (if (((((clerkTick jc).1).heads).length : Int) - 1) < (if 0 > x3.x then 0 else x3.x) then (((((clerkTick jc).1).heads).length : Int) - 1) else (if 0 > x3.x then 0 else x3.x)) = z_ := ⟨_, rfl⟩
        have e3 : (if (((((clerkTick jc).1).heads).length : Int) - 1) < (if 0 > x3.x then 0 else x3.x) then (((((clerkTick jc).1).heads).length : Int) - 1) else (if 0 > x3.x then 0 else x3.x)) = tb := htb
        refine tc_eq (fr' := [(1, Sr name), (3, Sl (At b8 o3) looks.length c_looks), (9, Pt b1 0), (11, Pt b3 0), (13, I (i : Int)), (22, I tb), (53, Sl (At b4 o2) values.length c_values), (54, I (values.length : Int)), (55, I (i : Int))]) (L' := [[Sg b6 0 [Sr (((ownerWant ko x2).2.1).name), Sr (((ownerWant ko x2).2.1).value), U (((ownerWant ko x2).2.1).n), U (((ownerWant ko x2).2.1).tag)]], [Sg b5 0 [Sr (((ownerWant ko x2).1).name), U (((ownerWant ko x2).1).key), I (((ownerWant ko x2).1).head.epoch), U (((ownerWant ko x2).1).head.root), U (((ownerWant ko x2).1).head.prev), I (((ownerWant ko x2).1).head.at_), Sl a5 ((((ownerWant ko x2).1).wanted).length) c5, I (((ownerWant ko x2).1).had)]], [Sg b3 0 [Sr jo.name, U jo.key, I jo.head.epoch, U jo.head.root, U jo.head.prev, I jo.head.at_, Sl ajo0 jo.wanted.length cjo0, I jo.had]], [Sg b1 0 [I (((clerkTick jc).1).queue.most), Sl a9 ((((clerkTick jc).1).queue.wait).length) c9, I (((clerkTick jc).1).batch), I (((clerkTick jc).1).every), I (((clerkTick jc).1).now), Sl a10 ((((clerkTick jc).1).heads).length) c10, Sl a11 ((((clerkTick jc).1).books).length) c11]]]) (by first | rfl | simp only [e3]) (by first | rfl | simp only [e3]) ?_
        refine tc_seq ?_
        have e4 : IntKind.i64.wrap (jo.head.epoch + 1) = jo.head.epoch + 1 := IntWalk.i64_in _ (by first | omega | (have q_ := calm0_new.2.2.2.2; omega) | (have q_ := ex_facts hJ; omega) | (have q_ := ex_facts (ex_tick hJ); omega))
        refine tc_draw [] ?_
        refine dr_V [(0, Sl (At b8 o3) looks.length c_looks), (1, I (i : Int)), (2, Pt b8 (o3 + i * 2)), (3, Pt b8 (o3 + i * 2 + 1)), (4, I x3.y), (5, I (if 0 > x3.y then 0 else x3.y)), (6, I tb), (7, Pt b3 2), (8, Pt b3 2), (9, I jo.head.epoch), (10, I (jo.head.epoch + 1)), (11, I (if (jo.head.epoch + 1) < (if tb < (if 0 > x3.y then 0 else x3.y) then tb else (if 0 > x3.y then 0 else x3.y)) then (jo.head.epoch + 1) else (if tb < (if 0 > x3.y then 0 else x3.y) then tb else (if 0 > x3.y then 0 else x3.y)))), (12, I (if (jo.head.epoch + 1) < (if tb < (if 0 > x3.y then 0 else x3.y) then tb else (if 0 > x3.y then 0 else x3.y)) then (jo.head.epoch + 1) else (if tb < (if 0 > x3.y then 0 else x3.y) then tb else (if 0 > x3.y then 0 else x3.y))))] ?_
        refine dr_end [] [(0,0), (1,0), (3,0), (5,0), (6,0), (7,0), (8,0), (9,6), (11,0), (12,0)] [2, 4, 10] [(1, Sr name), (3, Sl (At b8 o3) looks.length c_looks), (9, Pt b1 0), (11, Pt b3 0), (22, I tb), (23, I (if (jo.head.epoch + 1) < (if tb < (if 0 > x3.y then 0 else x3.y) then tb else (if 0 > x3.y then 0 else x3.y)) then (jo.head.epoch + 1) else (if tb < (if 0 > x3.y then 0 else x3.y) then tb else (if 0 > x3.y then 0 else x3.y)))), (53, Sl (At b4 o2) values.length c_values), (54, I (values.length : Int)), (55, I (i : Int))] (List.forall_mem_cons.2 ⟨?_, (List.forall_mem_cons.2 ⟨?_, (List.forall_mem_cons.2 ⟨?_, List.forall_mem_nil _⟩)⟩)⟩) ?_
        ·
         refine stab_of 2 108 (Pt b8 (o3 + i * 2)) [(106, Sl (At b8 o3) looks.length c_looks), (107, I (i : Int))] (fun X => ?_)
         exact runL_idx (b := b8) (off := o3) (len := looks.length) (cap := c_looks) (ik := .i64) 108 97 2 i (by first | omega | (have q_ := calm0_new.2.2.2.2; omega) | (have q_ := ex_facts hJ; omega) | (have q_ := ex_facts (ex_tick hJ); omega)) stab_end
        ·
         refine stab_of 4 110 (I x3.y) [(109, Pt b8 (o3 + i * 2 + 1))] (fun X => ?_)
         exact runL_ldG 110 2 (cs := [I x3.x, I x3.y]) 1 (I x3.y) hc3 stab_end
        ·
         refine stab_of 10 116 (I (jo.head.epoch + 1)) [(115, I jo.head.epoch)] (fun X => ?_)
         exact runL_p1 116 (I (IntKind.i64.wrap (jo.head.epoch + 1))) (I (jo.head.epoch + 1)) (by simp only [e4]) stab_end
        refine tq_then ?_
        obtain ⟨fa, hfa⟩ : ∃ z_ : Int, (if (jo.head.epoch + 1) < (if tb < (if 0 > x3.y then 0 else x3.y) then tb else (if 0 > x3.y then 0 else x3.y)) then (jo.head.epoch + 1) else (if tb < (if 0 > x3.y then 0 else x3.y) then tb else (if 0 > x3.y then 0 else x3.y))) = z_ := ⟨_, rfl⟩
        have e5 : (if (jo.head.epoch + 1) < (if tb < (if 0 > x3.y then 0 else x3.y) then tb else (if 0 > x3.y then 0 else x3.y)) then (jo.head.epoch + 1) else (if tb < (if 0 > x3.y then 0 else x3.y) then tb else (if 0 > x3.y then 0 else x3.y))) = fa := hfa
        refine tc_eq (fr' := [(1, Sr name), (3, Sl (At b8 o3) looks.length c_looks), (9, Pt b1 0), (11, Pt b3 0), (22, I tb), (23, I fa), (53, Sl (At b4 o2) values.length c_values), (54, I (values.length : Int)), (55, I (i : Int))]) (L' := [[Sg b6 0 [Sr (((ownerWant ko x2).2.1).name), Sr (((ownerWant ko x2).2.1).value), U (((ownerWant ko x2).2.1).n), U (((ownerWant ko x2).2.1).tag)]], [Sg b5 0 [Sr (((ownerWant ko x2).1).name), U (((ownerWant ko x2).1).key), I (((ownerWant ko x2).1).head.epoch), U (((ownerWant ko x2).1).head.root), U (((ownerWant ko x2).1).head.prev), I (((ownerWant ko x2).1).head.at_), Sl a5 ((((ownerWant ko x2).1).wanted).length) c5, I (((ownerWant ko x2).1).had)]], [Sg b3 0 [Sr jo.name, U jo.key, I jo.head.epoch, U jo.head.root, U jo.head.prev, I jo.head.at_, Sl ajo0 jo.wanted.length cjo0, I jo.had]], [Sg b1 0 [I (((clerkTick jc).1).queue.most), Sl a9 ((((clerkTick jc).1).queue.wait).length) c9, I (((clerkTick jc).1).batch), I (((clerkTick jc).1).every), I (((clerkTick jc).1).now), Sl a10 ((((clerkTick jc).1).heads).length) c10, Sl a11 ((((clerkTick jc).1).books).length) c11]]]) (by first | rfl | simp only [e5]) (by first | rfl | simp only [e5]) ?_
        have hfb : 0 ≤ tb ∧ tb < ((clerkTick jc).1.heads.length : Int) ∧ 0 ≤ fa ∧ fa ≤ tb ∧ fa ≤ jo.head.epoch + 1 := by have q_ := ex_facts (ex_tick hJ); omega
        refine tc_seq (tc_region ?_)
        refine runL_b [8,0,0] [(1, Sr name), (3, Sl (At b8 o3) looks.length c_looks), (9, Pt b1 0), (11, Pt b3 0), (22, I tb), (53, Sl (At b4 o2) values.length c_values), (54, I (values.length : Int)), (55, I (i : Int)), (119, .agg #[I (((clerkTick jc).1).queue.most), Sl a9 ((((clerkTick jc).1).queue.wait).length) c9, I (((clerkTick jc).1).batch), I (((clerkTick jc).1).every), I (((clerkTick jc).1).now), Sl a10 ((((clerkTick jc).1).heads).length) c10, Sl a11 ((((clerkTick jc).1).books).length) c11]), (120, I fa), (121, I tb)] ?_
        refine runL_callR 122 (serveHeads_con G5 [I (((clerkTick jc).1).queue.most), Sl a9 ((((clerkTick jc).1).queue.wait).length) c9, I (((clerkTick jc).1).batch), I (((clerkTick jc).1).every), I (((clerkTick jc).1).now), Sl a10 ((((clerkTick jc).1).heads).length) c10, Sl a11 ((((clerkTick jc).1).books).length) c11] ((clerkTick jc).1) (⟨a9, c9, a10, c10, a11, c11, rfl, (by first | assumption | omega | (simp; done) | (simp; omega)), hs9, (by first | assumption | omega | (simp; done) | (simp; omega)), (by first | assumption | omega | (simp; done) | (simp; omega)), (by first | assumption | omega | (simp; done) | (simp; omega)), hs10, hs11⟩) fa (by first | assumption | omega | (simp; done) | (simp; omega)) tb (by first | assumption | omega | (simp; done) | (simp; omega))) (fun v G6 L1 hl6 hp => ?_)
        obtain ⟨a12, c12, rfl, hs12, rfl⟩ := hp
        refine runL_b [0,0,0,0,0] [(1, Sr name), (3, Sl (At b8 o3) looks.length c_looks), (9, Pt b1 0), (11, Pt b3 0), (17, I ((serveHeads ((clerkTick jc).1) fa tb).2)), (22, I tb), (24, Sl a12 (((serveHeads ((clerkTick jc).1) fa tb).1).length) c12), (53, Sl (At b4 o2) values.length c_values), (54, I (values.length : Int)), (55, I (i : Int))] (runL_nil (tq_then (tc_seq (tc_region ?_))))
        refine runL_b [8,0,0] [(1, Sr name), (3, Sl (At b8 o3) looks.length c_looks), (9, Pt b1 0), (11, Pt b3 0), (17, I ((serveHeads ((clerkTick jc).1) fa tb).2)), (24, Sl a12 (((serveHeads ((clerkTick jc).1) fa tb).1).length) c12), (53, Sl (At b4 o2) values.length c_values), (54, I (values.length : Int)), (55, I (i : Int)), (126, .agg #[I (((clerkTick jc).1).queue.most), Sl a9 ((((clerkTick jc).1).queue.wait).length) c9, I (((clerkTick jc).1).batch), I (((clerkTick jc).1).every), I (((clerkTick jc).1).now), Sl a10 ((((clerkTick jc).1).heads).length) c10, Sl a11 ((((clerkTick jc).1).books).length) c11]), (127, Sr name), (128, I tb)] ?_
        refine runL_callR 129 (serveLook_con G6 [I (((clerkTick jc).1).queue.most), Sl a9 ((((clerkTick jc).1).queue.wait).length) c9, I (((clerkTick jc).1).batch), I (((clerkTick jc).1).every), I (((clerkTick jc).1).now), Sl a10 ((((clerkTick jc).1).heads).length) c10, Sl a11 ((((clerkTick jc).1).books).length) c11] ((clerkTick jc).1) (⟨a9, c9, a10, c10, a11, c11, rfl, (by first | assumption | omega | (simp; done) | (simp; omega)), (hs9.mono hl6), (by first | assumption | omega | (simp; done) | (simp; omega)), (by first | assumption | omega | (simp; done) | (simp; omega)), (by first | assumption | omega | (simp; done) | (simp; omega)), (hs10.mono hl6), (hs11.mono hl6)⟩) name (by first | assumption | omega | (simp; done) | (simp; omega)) tb (by first | assumption | omega | (simp; done) | (simp; omega))) (fun v G7 L1 hl7 hp => ?_)
        obtain ⟨a13, c13, a14, c14, rfl, w39, w40, w41, w42, w43, hs13, hs14, rfl⟩ := hp
        refine runL_b [0,0,0] [(1, Sr name), (3, Sl (At b8 o3) looks.length c_looks), (9, Pt b1 0), (11, Pt b3 0), (17, I ((serveHeads ((clerkTick jc).1) fa tb).2)), (24, Sl a12 (((serveHeads ((clerkTick jc).1) fa tb).1).length) c12), (53, Sl (At b4 o2) values.length c_values), (54, I (values.length : Int)), (55, I (i : Int)), (130, .agg #[I (((serveLook ((clerkTick jc).1) name tb).1).head.epoch), U (((serveLook ((clerkTick jc).1) name tb).1).head.root), U (((serveLook ((clerkTick jc).1) name tb).1).head.prev), I (((serveLook ((clerkTick jc).1) name tb).1).head.at_), Sr (((serveLook ((clerkTick jc).1) name tb).1).proof.name), Sl a13 ((((serveLook ((clerkTick jc).1) name tb).1).proof.entries).length) c13, Sl a14 ((((serveLook ((clerkTick jc).1) name tb).1).proof.sides).length) c14]), (131, I ((serveLook ((clerkTick jc).1) name tb).2))] ?_
        refine runL_box 25 #[I 0, U 0, U 0, I 0, Sr ([]), Sl none 0 0, Sl none 0 0] 38 (fun b9 => ?_)
        refine runL_bs [3,0] [(1, Sr name), (3, Sl (At b8 o3) looks.length c_looks), (9, Pt b1 0), (11, Pt b3 0), (17, I ((serveHeads ((clerkTick jc).1) fa tb).2)), (24, Sl a12 (((serveHeads ((clerkTick jc).1) fa tb).1).length) c12), (25, Pt b9 0), (26, I ((serveLook ((clerkTick jc).1) name tb).2)), (53, Sl (At b4 o2) values.length c_values), (54, I (values.length : Int)), (55, I (i : Int))] [[Sg b9 0 [I (((serveLook ((clerkTick jc).1) name tb).1).head.epoch), U (((serveLook ((clerkTick jc).1) name tb).1).head.root), U (((serveLook ((clerkTick jc).1) name tb).1).head.prev), I (((serveLook ((clerkTick jc).1) name tb).1).head.at_), Sr (((serveLook ((clerkTick jc).1) name tb).1).proof.name), Sl a13 ((((serveLook ((clerkTick jc).1) name tb).1).proof.entries).length) c13, Sl a14 ((((serveLook ((clerkTick jc).1) name tb).1).proof.sides).length) c14]], [Sg b6 0 [Sr (((ownerWant ko x2).2.1).name), Sr (((ownerWant ko x2).2.1).value), U (((ownerWant ko x2).2.1).n), U (((ownerWant ko x2).2.1).tag)]], [Sg b5 0 [Sr (((ownerWant ko x2).1).name), U (((ownerWant ko x2).1).key), I (((ownerWant ko x2).1).head.epoch), U (((ownerWant ko x2).1).head.root), U (((ownerWant ko x2).1).head.prev), I (((ownerWant ko x2).1).head.at_), Sl a5 ((((ownerWant ko x2).1).wanted).length) c5, I (((ownerWant ko x2).1).had)]], [Sg b3 0 [Sr jo.name, U jo.key, I jo.head.epoch, U jo.head.root, U jo.head.prev, I jo.head.at_, Sl ajo0 jo.wanted.length cjo0, I jo.had]], [Sg b1 0 [I (((clerkTick jc).1).queue.most), Sl a9 ((((clerkTick jc).1).queue.wait).length) c9, I (((clerkTick jc).1).batch), I (((clerkTick jc).1).every), I (((clerkTick jc).1).now), Sl a10 ((((clerkTick jc).1).heads).length) c10, Sl a11 ((((clerkTick jc).1).books).length) c11]]] (runL_nil (tq_then (tc_seq (tc_region ?_))))
        refine runL_b [8,0,2] [(1, Sr name), (3, Sl (At b8 o3) looks.length c_looks), (9, Pt b1 0), (11, Pt b3 0), (17, I ((serveHeads ((clerkTick jc).1) fa tb).2)), (26, I ((serveLook ((clerkTick jc).1) name tb).2)), (53, Sl (At b4 o2) values.length c_values), (54, I (values.length : Int)), (55, I (i : Int)), (133, .agg #[Sr jo.name, U jo.key, I jo.head.epoch, U jo.head.root, U jo.head.prev, I jo.head.at_, Sl ajo0 jo.wanted.length cjo0, I jo.had]), (134, Sl a12 (((serveHeads ((clerkTick jc).1) fa tb).1).length) c12), (135, .agg #[I (((serveLook ((clerkTick jc).1) name tb).1).head.epoch), U (((serveLook ((clerkTick jc).1) name tb).1).head.root), U (((serveLook ((clerkTick jc).1) name tb).1).head.prev), I (((serveLook ((clerkTick jc).1) name tb).1).head.at_), Sr (((serveLook ((clerkTick jc).1) name tb).1).proof.name), Sl a13 ((((serveLook ((clerkTick jc).1) name tb).1).proof.entries).length) c13, Sl a14 ((((serveLook ((clerkTick jc).1) name tb).1).proof.sides).length) c14])] ?_
        refine runL_callR 136 (ownerSee_con G7 [Sr jo.name, U jo.key, I jo.head.epoch, U jo.head.root, U jo.head.prev, I jo.head.at_, Sl ajo0 jo.wanted.length cjo0, I jo.had] jo (⟨ajo0, cjo0, rfl, (by first | assumption | omega | (simp; done) | (simp; omega)), (by first | assumption | omega | (simp; done) | (simp; omega)), (by first | assumption | omega | (simp; done) | (simp; omega)), (by first | assumption | omega | (simp; done) | (simp; omega)), (by first | assumption | omega | (simp; done) | (simp; omega)), (by first | assumption | omega | (simp; done) | (simp; omega)), (hjo6.mono (Mem.le_trans (Mem.le_trans hl5 hl6) hl7)), (by first | assumption | omega | (simp; done) | (simp; omega))⟩) a12 c12 ((serveHeads ((clerkTick jc).1) fa tb).1) (hs12.mono hl7) [I (((serveLook ((clerkTick jc).1) name tb).1).head.epoch), U (((serveLook ((clerkTick jc).1) name tb).1).head.root), U (((serveLook ((clerkTick jc).1) name tb).1).head.prev), I (((serveLook ((clerkTick jc).1) name tb).1).head.at_), Sr (((serveLook ((clerkTick jc).1) name tb).1).proof.name), Sl a13 ((((serveLook ((clerkTick jc).1) name tb).1).proof.entries).length) c13, Sl a14 ((((serveLook ((clerkTick jc).1) name tb).1).proof.sides).length) c14] ((serveLook ((clerkTick jc).1) name tb).1) (⟨a13, c13, a14, c14, rfl, w39, w40, w41, w42, w43, hs13, hs14⟩)) (fun v G8 L1 hl8 hp => ?_)
        obtain ⟨a15, c15, rfl, w44, w45, w46, w47, w48, w49, hs15, w50, rfl⟩ := hp
        refine runL_b [0,0,0,0] [(1, Sr name), (3, Sl (At b8 o3) looks.length c_looks), (9, Pt b1 0), (11, Pt b3 0), (17, I ((serveHeads ((clerkTick jc).1) fa tb).2)), (26, I ((serveLook ((clerkTick jc).1) name tb).2)), (53, Sl (At b4 o2) values.length c_values), (54, I (values.length : Int)), (55, I (i : Int)), (137, .agg #[Sr (((ownerSee jo ((serveHeads ((clerkTick jc).1) fa tb).1) ((serveLook ((clerkTick jc).1) name tb).1)).1).name), U (((ownerSee jo ((serveHeads ((clerkTick jc).1) fa tb).1) ((serveLook ((clerkTick jc).1) name tb).1)).1).key), I (((ownerSee jo ((serveHeads ((clerkTick jc).1) fa tb).1) ((serveLook ((clerkTick jc).1) name tb).1)).1).head.epoch), U (((ownerSee jo ((serveHeads ((clerkTick jc).1) fa tb).1) ((serveLook ((clerkTick jc).1) name tb).1)).1).head.root), U (((ownerSee jo ((serveHeads ((clerkTick jc).1) fa tb).1) ((serveLook ((clerkTick jc).1) name tb).1)).1).head.prev), I (((ownerSee jo ((serveHeads ((clerkTick jc).1) fa tb).1) ((serveLook ((clerkTick jc).1) name tb).1)).1).head.at_), Sl a15 ((((ownerSee jo ((serveHeads ((clerkTick jc).1) fa tb).1) ((serveLook ((clerkTick jc).1) name tb).1)).1).wanted).length) c15, I (((ownerSee jo ((serveHeads ((clerkTick jc).1) fa tb).1) ((serveLook ((clerkTick jc).1) name tb).1)).1).had)]), (138, I ((ownerSee jo ((serveHeads ((clerkTick jc).1) fa tb).1) ((serveLook ((clerkTick jc).1) name tb).1)).2.1)), (139, I ((ownerSee jo ((serveHeads ((clerkTick jc).1) fa tb).1) ((serveLook ((clerkTick jc).1) name tb).1)).2.2))] ?_
        refine runL_box 27 #[Sr ([]), U 0, I 0, U 0, U 0, I 0, Sl none 0 0, I 0] 92 (fun b10 => ?_)
        refine runL_bs [3,0,0] [(1, Sr name), (3, Sl (At b8 o3) looks.length c_looks), (9, Pt b1 0), (11, Pt b3 0), (17, I ((serveHeads ((clerkTick jc).1) fa tb).2)), (26, I ((serveLook ((clerkTick jc).1) name tb).2)), (27, Pt b10 0), (28, I ((ownerSee jo ((serveHeads ((clerkTick jc).1) fa tb).1) ((serveLook ((clerkTick jc).1) name tb).1)).2.1)), (29, I ((ownerSee jo ((serveHeads ((clerkTick jc).1) fa tb).1) ((serveLook ((clerkTick jc).1) name tb).1)).2.2)), (53, Sl (At b4 o2) values.length c_values), (54, I (values.length : Int)), (55, I (i : Int))] [[Sg b10 0 [Sr (((ownerSee jo ((serveHeads ((clerkTick jc).1) fa tb).1) ((serveLook ((clerkTick jc).1) name tb).1)).1).name), U (((ownerSee jo ((serveHeads ((clerkTick jc).1) fa tb).1) ((serveLook ((clerkTick jc).1) name tb).1)).1).key), I (((ownerSee jo ((serveHeads ((clerkTick jc).1) fa tb).1) ((serveLook ((clerkTick jc).1) name tb).1)).1).head.epoch), U (((ownerSee jo ((serveHeads ((clerkTick jc).1) fa tb).1) ((serveLook ((clerkTick jc).1) name tb).1)).1).head.root), U (((ownerSee jo ((serveHeads ((clerkTick jc).1) fa tb).1) ((serveLook ((clerkTick jc).1) name tb).1)).1).head.prev), I (((ownerSee jo ((serveHeads ((clerkTick jc).1) fa tb).1) ((serveLook ((clerkTick jc).1) name tb).1)).1).head.at_), Sl a15 ((((ownerSee jo ((serveHeads ((clerkTick jc).1) fa tb).1) ((serveLook ((clerkTick jc).1) name tb).1)).1).wanted).length) c15, I (((ownerSee jo ((serveHeads ((clerkTick jc).1) fa tb).1) ((serveLook ((clerkTick jc).1) name tb).1)).1).had)]], [Sg b9 0 [I (((serveLook ((clerkTick jc).1) name tb).1).head.epoch), U (((serveLook ((clerkTick jc).1) name tb).1).head.root), U (((serveLook ((clerkTick jc).1) name tb).1).head.prev), I (((serveLook ((clerkTick jc).1) name tb).1).head.at_), Sr (((serveLook ((clerkTick jc).1) name tb).1).proof.name), Sl a13 ((((serveLook ((clerkTick jc).1) name tb).1).proof.entries).length) c13, Sl a14 ((((serveLook ((clerkTick jc).1) name tb).1).proof.sides).length) c14]], [Sg b6 0 [Sr (((ownerWant ko x2).2.1).name), Sr (((ownerWant ko x2).2.1).value), U (((ownerWant ko x2).2.1).n), U (((ownerWant ko x2).2.1).tag)]], [Sg b5 0 [Sr (((ownerWant ko x2).1).name), U (((ownerWant ko x2).1).key), I (((ownerWant ko x2).1).head.epoch), U (((ownerWant ko x2).1).head.root), U (((ownerWant ko x2).1).head.prev), I (((ownerWant ko x2).1).head.at_), Sl a5 ((((ownerWant ko x2).1).wanted).length) c5, I (((ownerWant ko x2).1).had)]], [Sg b3 0 [Sr jo.name, U jo.key, I jo.head.epoch, U jo.head.root, U jo.head.prev, I jo.head.at_, Sl ajo0 jo.wanted.length cjo0, I jo.had]], [Sg b1 0 [I (((clerkTick jc).1).queue.most), Sl a9 ((((clerkTick jc).1).queue.wait).length) c9, I (((clerkTick jc).1).batch), I (((clerkTick jc).1).every), I (((clerkTick jc).1).now), Sl a10 ((((clerkTick jc).1).heads).length) c10, Sl a11 ((((clerkTick jc).1).books).length) c11]]] (runL_nil (tq_then (tc_seq (tc_seq (tc_region ?_)))))
        refine runL_b [0,0,0] [(1, Sr name), (3, Sl (At b8 o3) looks.length c_looks), (9, Pt b1 0), (11, Pt b3 0), (27, Pt b10 0), (28, I ((ownerSee jo ((serveHeads ((clerkTick jc).1) fa tb).1) ((serveLook ((clerkTick jc).1) name tb).1)).2.1)), (53, Sl (At b4 o2) values.length c_values), (54, I (values.length : Int)), (55, I (i : Int)), (140, I ((serveHeads ((clerkTick jc).1) fa tb).2)), (141, I ((serveLook ((clerkTick jc).1) name tb).2)), (142, I ((ownerSee jo ((serveHeads ((clerkTick jc).1) fa tb).1) ((serveLook ((clerkTick jc).1) name tb).1)).2.2))] ?_
        refine runL_bsl 143 3 #[I ((serveHeads ((clerkTick jc).1) fa tb).2), I ((serveLook ((clerkTick jc).1) name tb).2), I ((ownerSee jo ((serveHeads ((clerkTick jc).1) fa tb).1) ((serveLook ((clerkTick jc).1) name tb).1)).2.2)] 39 (fun b11 => ?_)
        refine runL_frz1 (b := b11) (o := 0) (cs := [I ((serveHeads ((clerkTick jc).1) fa tb).2), I ((serveLook ((clerkTick jc).1) name tb).2), I ((ownerSee jo ((serveHeads ((clerkTick jc).1) fa tb).1) ((serveLook ((clerkTick jc).1) name tb).1)).2.2)]) 0 (fun G9 hl9 hz1 => ?_)
        have hs16 : RS EErr G9 (At b11 0) 3 [(serveHeads ((clerkTick jc).1) fa tb).2, (serveLook ((clerkTick jc).1) name tb).2, (ownerSee jo ((serveHeads ((clerkTick jc).1) fa tb).1) ((serveLook ((clerkTick jc).1) name tb).1)).2.2] := RS.lit [[I ((serveHeads ((clerkTick jc).1) fa tb).2)], [I ((serveLook ((clerkTick jc).1) name tb).2)], [I ((ownerSee jo ((serveHeads ((clerkTick jc).1) fa tb).1) ((serveLook ((clerkTick jc).1) name tb).1)).2.2)]] [(serveHeads ((clerkTick jc).1) fa tb).2, (serveLook ((clerkTick jc).1) name tb).2, (ownerSee jo ((serveHeads ((clerkTick jc).1) fa tb).1) ((serveLook ((clerkTick jc).1) name tb).1)).2.2] ⟨rfl, ⟨rfl, ⟨rfl, trivial⟩⟩⟩ hz1 (Nat.le_of_ble_eq_true rfl) (Nat.le_of_ble_eq_true rfl)
        refine runL_callV 144 (Bo (!(([(serveHeads ((clerkTick jc).1) fa tb).2, (serveLook ((clerkTick jc).1) name tb).2, (ownerSee jo ((serveHeads ((clerkTick jc).1) fa tb).1) ((serveLook ((clerkTick jc).1) name tb).1)).2.2]).any fun x0 => !decide (x0 = 0)))) (good_con G9 (At b11 0) 3 ([(serveHeads ((clerkTick jc).1) fa tb).2, (serveLook ((clerkTick jc).1) name tb).2, (ownerSee jo ((serveHeads ((clerkTick jc).1) fa tb).1) ((serveLook ((clerkTick jc).1) name tb).1)).2.2]) hs16) ?_
        refine runL_b [0,0] [(1, Sr name), (3, Sl (At b8 o3) looks.length c_looks), (9, Pt b1 0), (11, Pt b3 0), (27, Pt b10 0), (28, I ((ownerSee jo ((serveHeads ((clerkTick jc).1) fa tb).1) ((serveLook ((clerkTick jc).1) name tb).1)).2.1)), (53, Sl (At b4 o2) values.length c_values), (54, I (values.length : Int)), (55, I (i : Int)), (146, Bo (!(!(([(serveHeads ((clerkTick jc).1) fa tb).2, (serveLook ((clerkTick jc).1) name tb).2, (ownerSee jo ((serveHeads ((clerkTick jc).1) fa tb).1) ((serveLook ((clerkTick jc).1) name tb).1)).2.2]).any fun x0 => !decide (x0 = 0)))))] ?_
        refine runL_b2 (!(!(([(serveHeads ((clerkTick jc).1) fa tb).2, (serveLook ((clerkTick jc).1) name tb).2, (ownerSee jo ((serveHeads ((clerkTick jc).1) fa tb).1) ((serveLook ((clerkTick jc).1) name tb).1)).2.2]).any fun x0 => !decide (x0 = 0)))) (fun bb => [(1, Sr name), (3, Sl (At b8 o3) looks.length c_looks), (9, Pt b1 0), (11, Pt b3 0), (27, Pt b10 0), (28, I ((ownerSee jo ((serveHeads ((clerkTick jc).1) fa tb).1) ((serveLook ((clerkTick jc).1) name tb).1)).2.1)), (53, Sl (At b4 o2) values.length c_values), (54, I (values.length : Int)), (55, I (i : Int)), (146, Bo bb)]) [1,1,0] [0,0,0] (fun bb => [(1, Sr name), (3, Sl (At b8 o3) looks.length c_looks), (9, Pt b1 0), (11, Pt b3 0), (27, Pt b10 0), (53, Sl (At b4 o2) values.length c_values), (54, I (values.length : Int)), (55, I (i : Int)), (149, Bo (bb || (decide ((ownerSee jo ((serveHeads ((clerkTick jc).1) fa tb).1) ((serveLook ((clerkTick jc).1) name tb).1)).2.1 > 1))))]) ?_
        refine runL_nil (tq_then ?_)
        refine tc_cond ((!(!(([(serveHeads ((clerkTick jc).1) fa tb).2, (serveLook ((clerkTick jc).1) name tb).2, (ownerSee jo ((serveHeads ((clerkTick jc).1) fa tb).1) ((serveLook ((clerkTick jc).1) name tb).1)).2.2]).any fun x0 => !decide (x0 = 0)))) || (decide ((ownerSee jo ((serveHeads ((clerkTick jc).1) fa tb).1) ((serveLook ((clerkTick jc).1) name tb).1)).2.1 > 1))) (fun h9 => ?_) (fun h9 => ?_)
        ·
         try simp only [BB] at h9
         refine tc_rb [0] [(8, Bo false)] (tc_ret (tq_then_ret (tq_block_ret (tq_then_ret (tq_rnd_ret (tq_block_ret (tq_then_ret ?_)))))))
         refine tq_ret [0] [Bo false] (bp_ret (Mem.le_trans (Mem.le_trans (Mem.le_trans (Mem.le_trans (Mem.le_trans (Mem.le_trans (Mem.le_trans (Mem.le_trans (Mem.le_trans hl1 hl2) hle) hl3) hle1_) hl5) hl6) hl7) hl8) hl9) ?_)
         exfalso
         first | rfl | (exact absurd calm0_new.1 (by assumption)) | (rw [ownerNew_err (by assumption)]; rfl) | (exact absurd (ex_tick0 hJ) (by assumption)) | (have q_ := ex_see0 (ex_tick hJ) hfb.2.2.1 hfb.2.2.2.1 hfb.2.1 hfb.2.2.2.2; simp_all; done) | (have q_ := ex_see0 (ex_tick hJ) hfb.2.2.1 hfb.2.2.2.1 hfb.2.1 hfb.2.2.2.2; simp_all; omega)
        ·
         try simp only [BB] at h9
         refine tc_skip (tq_then (tc_region ?_))
         refine runL_bs [4,13] [(1, Sr name), (3, Sl (At b8 o3) looks.length c_looks), (9, Pt b1 0), (11, Pt b3 0), (53, Sl (At b4 o2) values.length c_values), (54, I (values.length : Int)), (55, I (i : Int))] [[], [Sg b10 0 [Sr (((ownerSee jo ((serveHeads ((clerkTick jc).1) fa tb).1) ((serveLook ((clerkTick jc).1) name tb).1)).1).name), U (((ownerSee jo ((serveHeads ((clerkTick jc).1) fa tb).1) ((serveLook ((clerkTick jc).1) name tb).1)).1).key), I (((ownerSee jo ((serveHeads ((clerkTick jc).1) fa tb).1) ((serveLook ((clerkTick jc).1) name tb).1)).1).head.epoch), U (((ownerSee jo ((serveHeads ((clerkTick jc).1) fa tb).1) ((serveLook ((clerkTick jc).1) name tb).1)).1).head.root), U (((ownerSee jo ((serveHeads ((clerkTick jc).1) fa tb).1) ((serveLook ((clerkTick jc).1) name tb).1)).1).head.prev), I (((ownerSee jo ((serveHeads ((clerkTick jc).1) fa tb).1) ((serveLook ((clerkTick jc).1) name tb).1)).1).head.at_), Sl a15 ((((ownerSee jo ((serveHeads ((clerkTick jc).1) fa tb).1) ((serveLook ((clerkTick jc).1) name tb).1)).1).wanted).length) c15, I (((ownerSee jo ((serveHeads ((clerkTick jc).1) fa tb).1) ((serveLook ((clerkTick jc).1) name tb).1)).1).had)]], [Sg b9 0 [I (((serveLook ((clerkTick jc).1) name tb).1).head.epoch), U (((serveLook ((clerkTick jc).1) name tb).1).head.root), U (((serveLook ((clerkTick jc).1) name tb).1).head.prev), I (((serveLook ((clerkTick jc).1) name tb).1).head.at_), Sr (((serveLook ((clerkTick jc).1) name tb).1).proof.name), Sl a13 ((((serveLook ((clerkTick jc).1) name tb).1).proof.entries).length) c13, Sl a14 ((((serveLook ((clerkTick jc).1) name tb).1).proof.sides).length) c14]], [Sg b6 0 [Sr (((ownerWant ko x2).2.1).name), Sr (((ownerWant ko x2).2.1).value), U (((ownerWant ko x2).2.1).n), U (((ownerWant ko x2).2.1).tag)]], [Sg b5 0 [Sr (((ownerWant ko x2).1).name), U (((ownerWant ko x2).1).key), I (((ownerWant ko x2).1).head.epoch), U (((ownerWant ko x2).1).head.root), U (((ownerWant ko x2).1).head.prev), I (((ownerWant ko x2).1).head.at_), Sl a5 ((((ownerWant ko x2).1).wanted).length) c5, I (((ownerWant ko x2).1).had)]], [Sg b3 0 [Sr (((ownerSee jo ((serveHeads ((clerkTick jc).1) fa tb).1) ((serveLook ((clerkTick jc).1) name tb).1)).1).name), U (((ownerSee jo ((serveHeads ((clerkTick jc).1) fa tb).1) ((serveLook ((clerkTick jc).1) name tb).1)).1).key), I (((ownerSee jo ((serveHeads ((clerkTick jc).1) fa tb).1) ((serveLook ((clerkTick jc).1) name tb).1)).1).head.epoch), U (((ownerSee jo ((serveHeads ((clerkTick jc).1) fa tb).1) ((serveLook ((clerkTick jc).1) name tb).1)).1).head.root), U (((ownerSee jo ((serveHeads ((clerkTick jc).1) fa tb).1) ((serveLook ((clerkTick jc).1) name tb).1)).1).head.prev), I (((ownerSee jo ((serveHeads ((clerkTick jc).1) fa tb).1) ((serveLook ((clerkTick jc).1) name tb).1)).1).head.at_), Sl a15 ((((ownerSee jo ((serveHeads ((clerkTick jc).1) fa tb).1) ((serveLook ((clerkTick jc).1) name tb).1)).1).wanted).length) c15, I (((ownerSee jo ((serveHeads ((clerkTick jc).1) fa tb).1) ((serveLook ((clerkTick jc).1) name tb).1)).1).had)]], [Sg b1 0 [I (((clerkTick jc).1).queue.most), Sl a9 ((((clerkTick jc).1).queue.wait).length) c9, I (((clerkTick jc).1).batch), I (((clerkTick jc).1).every), I (((clerkTick jc).1).now), Sl a10 ((((clerkTick jc).1).heads).length) c10, Sl a11 ((((clerkTick jc).1).books).length) c11]]] (runL_nil (tq_block (tq_then (tc_region ?_))))
         refine runL_b [0,0] [(1, Sr name), (3, Sl (At b8 o3) looks.length c_looks), (9, Pt b1 0), (11, Pt b3 0), (53, Sl (At b4 o2) values.length c_values), (54, I (values.length : Int)), (55, I (IntKind.i64.wrap ((i : Int) + 1)))] ?_
         have e6 : IntKind.i64.wrap ((i : Int) + 1) = (i : Int) + 1 := IntWalk.i64_in _ (by first | omega | (have q_ := calm0_new.2.2.2.2; omega) | (have q_ := ex_facts hJ; omega) | (have q_ := ex_facts (ex_tick hJ); omega))
         refine runL_eq (fr' := [(1, Sr name), (3, Sl (At b8 o3) looks.length c_looks), (9, Pt b1 0), (11, Pt b3 0), (53, Sl (At b4 o2) values.length c_values), (54, I (values.length : Int)), (55, I ((i : Int) + 1))]) (L' := [[], [Sg b10 0 [Sr (((ownerSee jo ((serveHeads ((clerkTick jc).1) fa tb).1) ((serveLook ((clerkTick jc).1) name tb).1)).1).name), U (((ownerSee jo ((serveHeads ((clerkTick jc).1) fa tb).1) ((serveLook ((clerkTick jc).1) name tb).1)).1).key), I (((ownerSee jo ((serveHeads ((clerkTick jc).1) fa tb).1) ((serveLook ((clerkTick jc).1) name tb).1)).1).head.epoch), U (((ownerSee jo ((serveHeads ((clerkTick jc).1) fa tb).1) ((serveLook ((clerkTick jc).1) name tb).1)).1).head.root), U (((ownerSee jo ((serveHeads ((clerkTick jc).1) fa tb).1) ((serveLook ((clerkTick jc).1) name tb).1)).1).head.prev), I (((ownerSee jo ((serveHeads ((clerkTick jc).1) fa tb).1) ((serveLook ((clerkTick jc).1) name tb).1)).1).head.at_), Sl a15 ((((ownerSee jo ((serveHeads ((clerkTick jc).1) fa tb).1) ((serveLook ((clerkTick jc).1) name tb).1)).1).wanted).length) c15, I (((ownerSee jo ((serveHeads ((clerkTick jc).1) fa tb).1) ((serveLook ((clerkTick jc).1) name tb).1)).1).had)]], [Sg b9 0 [I (((serveLook ((clerkTick jc).1) name tb).1).head.epoch), U (((serveLook ((clerkTick jc).1) name tb).1).head.root), U (((serveLook ((clerkTick jc).1) name tb).1).head.prev), I (((serveLook ((clerkTick jc).1) name tb).1).head.at_), Sr (((serveLook ((clerkTick jc).1) name tb).1).proof.name), Sl a13 ((((serveLook ((clerkTick jc).1) name tb).1).proof.entries).length) c13, Sl a14 ((((serveLook ((clerkTick jc).1) name tb).1).proof.sides).length) c14]], [Sg b6 0 [Sr (((ownerWant ko x2).2.1).name), Sr (((ownerWant ko x2).2.1).value), U (((ownerWant ko x2).2.1).n), U (((ownerWant ko x2).2.1).tag)]], [Sg b5 0 [Sr (((ownerWant ko x2).1).name), U (((ownerWant ko x2).1).key), I (((ownerWant ko x2).1).head.epoch), U (((ownerWant ko x2).1).head.root), U (((ownerWant ko x2).1).head.prev), I (((ownerWant ko x2).1).head.at_), Sl a5 ((((ownerWant ko x2).1).wanted).length) c5, I (((ownerWant ko x2).1).had)]], [Sg b3 0 [Sr (((ownerSee jo ((serveHeads ((clerkTick jc).1) fa tb).1) ((serveLook ((clerkTick jc).1) name tb).1)).1).name), U (((ownerSee jo ((serveHeads ((clerkTick jc).1) fa tb).1) ((serveLook ((clerkTick jc).1) name tb).1)).1).key), I (((ownerSee jo ((serveHeads ((clerkTick jc).1) fa tb).1) ((serveLook ((clerkTick jc).1) name tb).1)).1).head.epoch), U (((ownerSee jo ((serveHeads ((clerkTick jc).1) fa tb).1) ((serveLook ((clerkTick jc).1) name tb).1)).1).head.root), U (((ownerSee jo ((serveHeads ((clerkTick jc).1) fa tb).1) ((serveLook ((clerkTick jc).1) name tb).1)).1).head.prev), I (((ownerSee jo ((serveHeads ((clerkTick jc).1) fa tb).1) ((serveLook ((clerkTick jc).1) name tb).1)).1).head.at_), Sl a15 ((((ownerSee jo ((serveHeads ((clerkTick jc).1) fa tb).1) ((serveLook ((clerkTick jc).1) name tb).1)).1).wanted).length) c15, I (((ownerSee jo ((serveHeads ((clerkTick jc).1) fa tb).1) ((serveLook ((clerkTick jc).1) name tb).1)).1).had)]], [Sg b1 0 [I (((clerkTick jc).1).queue.most), Sl a9 ((((clerkTick jc).1).queue.wait).length) c9, I (((clerkTick jc).1).batch), I (((clerkTick jc).1).every), I (((clerkTick jc).1).now), Sl a10 ((((clerkTick jc).1).heads).length) c10, Sl a11 ((((clerkTick jc).1).books).length) c11]]]) (by simp only [e6]) (by rfl) ?_
         clear e6
         refine runL_nil ?_
         refine tq_owns [[Sg b3 0 [Sr (((ownerSee jo ((serveHeads ((clerkTick jc).1) fa tb).1) ((serveLook ((clerkTick jc).1) name tb).1)).1).name), U (((ownerSee jo ((serveHeads ((clerkTick jc).1) fa tb).1) ((serveLook ((clerkTick jc).1) name tb).1)).1).key), I (((ownerSee jo ((serveHeads ((clerkTick jc).1) fa tb).1) ((serveLook ((clerkTick jc).1) name tb).1)).1).head.epoch), U (((ownerSee jo ((serveHeads ((clerkTick jc).1) fa tb).1) ((serveLook ((clerkTick jc).1) name tb).1)).1).head.root), U (((ownerSee jo ((serveHeads ((clerkTick jc).1) fa tb).1) ((serveLook ((clerkTick jc).1) name tb).1)).1).head.prev), I (((ownerSee jo ((serveHeads ((clerkTick jc).1) fa tb).1) ((serveLook ((clerkTick jc).1) name tb).1)).1).head.at_), Sl a15 ((((ownerSee jo ((serveHeads ((clerkTick jc).1) fa tb).1) ((serveLook ((clerkTick jc).1) name tb).1)).1).wanted).length) c15, I (((ownerSee jo ((serveHeads ((clerkTick jc).1) fa tb).1) ((serveLook ((clerkTick jc).1) name tb).1)).1).had)]], [Sg b1 0 [I (((clerkTick jc).1).queue.most), Sl a9 ((((clerkTick jc).1).queue.wait).length) c9, I (((clerkTick jc).1).batch), I (((clerkTick jc).1).every), I (((clerkTick jc).1).now), Sl a10 ((((clerkTick jc).1).heads).length) c10, Sl a11 ((((clerkTick jc).1).books).length) c11]]] (.cons _ (.cons _ (.cons _ (.cons _ (.cons _ (.cons_cons _ (.cons_cons _ .slnil))))))) ?_
         exact tq_rnd (i + 1, ((clerkTick jc).1), a9, c9, a10, c10, a11, c11, ((ownerSee jo ((serveHeads ((clerkTick jc).1) fa tb).1) ((serveLook ((clerkTick jc).1) name tb).1)).1), a15, c15, G9) ⟨(Mem.le_trans hle (Mem.le_trans (Mem.le_trans (Mem.le_trans (Mem.le_trans (Mem.le_trans (Mem.le_trans hl3 hle1_) hl5) hl6) hl7) hl8) hl9)), (by omega), (by first | assumption | omega | (simp; done) | (simp; omega)), (hs9.mono (Mem.le_trans (Mem.le_trans (Mem.le_trans hl6 hl7) hl8) hl9)), (by first | assumption | omega | (simp; done) | (simp; omega)), (by first | assumption | omega | (simp; done) | (simp; omega)), (by first | assumption | omega | (simp; done) | (simp; omega)), (hs10.mono (Mem.le_trans (Mem.le_trans (Mem.le_trans hl6 hl7) hl8) hl9)), (hs11.mono (Mem.le_trans (Mem.le_trans (Mem.le_trans hl6 hl7) hl8) hl9)), (by first | assumption | omega | (simp; done) | (simp; omega)), (by first | assumption | omega | (simp; done) | (simp; omega)), (by first | assumption | omega | (simp; done) | (simp; omega)), (by first | assumption | omega | (simp; done) | (simp; omega)), (by first | assumption | omega | (simp; done) | (simp; omega)), (by first | assumption | omega | (simp; done) | (simp; omega)), (hs15.mono hl9), (by first | assumption | omega | (simp; done) | (simp; omega)), (by (try dsimp only); first | exact ex_see (ex_tick hJ) hfb.2.2.1 hfb.2.2.2.1 hfb.2.1 hfb.2.2.2.2 | exact (ex_tick hJ))⟩ (by (try dsimp only); omega)
   ·
    try simp only [BB] at h3
    refine tc_exit (tq_then_exit (tq_rnd_exit (tq_block_here (tq_then ?_))))
    refine tc_rb [0] [(8, Bo true)] (tc_ret ?_)
    refine tq_ret [0] [Bo true] (bp_ret (Mem.le_trans (Mem.le_trans hl1 hl2) hle) ?_)
    rfl
end Go.Proofs.YtmpakffajpnffaaGreatDoor
