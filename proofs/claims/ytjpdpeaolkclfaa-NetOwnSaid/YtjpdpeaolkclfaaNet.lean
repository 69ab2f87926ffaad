import Derived.Test.YtjpdpeaolkclfaaSl
namespace Go.Proofs.Ytjpdpeaolkclfaa
open Go.Tx
set_option linter.unusedVariables false
set_option linter.unusedSimpArgs false

def netZ : NetD := ⟨0, []⟩
def lDue (l : LetterD) (n : NetD) : Bool := decide (l.due ≤ n.now)
def netCheck (n : NetD) : Int := if n.now < 0 ∨ 1000000000 < n.now then 4 else if 60 < n.way.length then 7 else if (n.way.any fun x0 => lDue x0 n) = true then 4 else 0
theorem netCheck_ok {n : NetD} (h : netCheck n = 0) : 0 ≤ n.now ∧ n.now ≤ 1000000000 ∧ n.way.length ≤ 60 ∧ ∀ l ∈ n.way, n.now < l.due := by
  unfold netCheck at h
  split at h
  · cases h
  split at h
  · cases h
  split at h
  · cases h
  · rename_i h1 h2 h3
    refine ⟨by omega, by omega, by omega, fun l hl => ?_⟩
    have : ¬ lDue l n = true := fun hc => h3 (List.any_eq_true.2 ⟨l, hl, hc⟩)
    unfold lDue at this
    simpa using this
theorem netCheck_of {n : NetD} (h1 : 0 ≤ n.now ∧ n.now ≤ 1000000000) (h2 : n.way.length ≤ 60) (h3 : ∀ l ∈ n.way, n.now < l.due) : netCheck n = 0 := by
  unfold netCheck
  rw [if_neg (by omega), if_neg (by omega), if_neg]
  intro hc
  obtain ⟨l, hl, hd⟩ := List.any_eq_true.1 hc
  have := h3 l hl
  unfold lDue at hd
  simp at hd; omega
def fateBad (k : Int) : Bool := decide (k < 1) || decide (k > 100)
theorem fate_ok {l : List Int} {i : Nat} {x : Int} (h : (l.any fun x0 => fateBad x0) = false) (hx : l[i]? = some x) : 1 ≤ x ∧ x ≤ 100 := by
  have := List.any_eq_false.1 h x (List.mem_of_getElem? hx)
  unfold fateBad at this
  simp at this; omega
def dueAt (l : LetterD) (d : Int) : LetterD := ⟨l.to_, l.from_, l.since, d, l.heads, l.reply⟩
def netSend (n : NetD) (l : LetterD) (fates : List Int) : NetD × Int :=
  if netCheck n ≠ 0 then (netZ, netCheck n) else if (fates.any fun x0 => fateBad x0) = true then (netZ, 4) else if (fates.length : Int) > 60 - (n.way.length : Int) then (netZ, 7) else (⟨n.now, n.way ++ fates.map fun k => dueAt l (n.now + k)⟩, 0)
def netTick (n : NetD) : NetD × List LetterD × Int :=
  if netCheck n ≠ 0 then (netZ, [], netCheck n) else if n.now = 1000000000 then (netZ, [], 9) else (⟨n.now + 1, n.way.filter fun l => !decide (l.due = n.now + 1)⟩, n.way.filter fun l => decide (l.due = n.now + 1), 0)
theorem take_snoc {α : Type} {l : List α} {i : Nat} {x : α} (h : l[i]? = some x) : l.take i ++ [x] = l.take (i + 1) := by rw [List.take_add_one, h]; rfl
theorem map_snoc {α β : Type} {l : List α} {i : Nat} {x : α} (f : α → β) (h : l[i]? = some x) : (l.take i).map f ++ [f x] = (l.take (i + 1)).map f := by rw [List.take_add_one, h]; simp
theorem filter_snoc {α : Type} {l : List α} {i : Nat} {x : α} {p : α → Bool} (h : l[i]? = some x) (hp : p x = true) : (l.take i).filter p ++ [x] = (l.take (i + 1)).filter p := by rw [List.take_add_one, h]; simp [hp]
theorem filter_skip {α : Type} {l : List α} {i : Nat} {x : α} {p : α → Bool} (h : l[i]? = some x) (hp : p x = false) : (l.take i).filter p = (l.take (i + 1)).filter p := by rw [List.take_add_one, h]; simp [hp]
theorem filter_take_len {α : Type} (p : α → Bool) (l : List α) (i : Nat) : ((l.take i).filter p).length ≤ l.length := Nat.le_trans (List.length_filter_le _ _) (List.length_take_le' i l)
theorem filter_len_le {α : Type} {l : List α} {i : Nat} {x : α} (p : α → Bool) (h : l[i]? = some x) : ((l.take i).filter p).length + 1 ≤ l.length := by
  obtain ⟨hi, _⟩ := List.getElem?_eq_some_iff.1 h
  have h1 : ((l.take i).filter p).length ≤ (l.take i).length := List.length_filter_le _ _
  have h2 := List.length_take_le i l
  omega
def hit (n0 : Int) (l : LetterD) (fates : List Int) (c : LetterD) : Bool := decide (c.to_ = l.to_) && decide (c.from_ = l.from_) && decide (c.since = l.since) && fates.any fun x => decide (c.due - n0 = x)
theorem countP_split {α : Type} (p a : α → Bool) (l : List α) : l.countP p = (l.filter a).countP p + (l.filter fun x => !a x).countP p := by
  induction l with
  | nil => rfl
  | cons x l ih => rw [List.countP_cons, List.filter_cons, List.filter_cons]; cases h : a x <;> simp [List.countP_cons] <;> omega
theorem filter_split_len {α : Type} (a : α → Bool) (l : List α) : l.length = (l.filter a).length + (l.filter fun x => !a x).length := by
  induction l with
  | nil => rfl
  | cons x l ih => rw [List.filter_cons, List.filter_cons]; cases h : a x <;> simp <;> omega
theorem countP_snoc {α : Type} (p : α → Bool) {l : List α} {i : Nat} {x : α} (h : l[i]? = some x) (hp : p x = true) : (l.take (i + 1)).countP p = (l.take i).countP p + 1 := by rw [List.take_add_one, h]; simp [List.countP_append, hp]
theorem countP_skip {α : Type} (p : α → Bool) {l : List α} {i : Nat} {x : α} (h : l[i]? = some x) (hp : p x = false) : (l.take (i + 1)).countP p = (l.take i).countP p := by rw [List.take_add_one, h]; simp [List.countP_append, hp]
theorem countP_take_le {α : Type} (p : α → Bool) (l : List α) (i : Nat) : (l.take i).countP p ≤ l.length := Nat.le_trans List.countP_le_length (List.length_take_le' i l)
structure ComesInv (n : NetD) (l : LetterD) (fates : List Int) (k : Nat) (q : NetD) (w : Int) : Prop where
  now : q.now = n.now + k
  n0 : 0 ≤ n.now ∧ n.now ≤ 999999800
  fs : ∀ x ∈ fates, 1 ≤ x ∧ x ≤ 100
  k1 : k ≤ 101
  len : q.way.length ≤ 60
  due : ∀ c ∈ q.way, q.now < c.due
  cnt : (fates.length : Int) ≤ w + (q.way.countP (hit n.now l fates) : Nat)
  bd : 0 ≤ w ∧ w + (q.way.length : Int) ≤ 60
theorem comes_start {n : NetD} {l : LetterD} {fates : List Int} (h : (netSend n l fates).2 = 0) (hn : n.now ≤ 999999800) : ComesInv n l fates 0 (netSend n l fates).1 0 := by
  revert h
  unfold netSend
  split
  · intro h; contradiction
  split
  · intro h; cases h
  split
  · intro h; cases h
  · rename_i h1 h2 h3
    intro _
    obtain ⟨a1, a2, a3, a4⟩ := netCheck_ok (Decidable.not_not.1 h1)
    have hf : ∀ x ∈ fates, 1 ≤ x ∧ x ≤ 100 := by
      intro x hx
      obtain ⟨i, hi⟩ := List.getElem?_of_mem hx
      exact fate_ok (by simpa using h2) hi
    refine ⟨by simp, ⟨a1, hn⟩, hf, by omega, by simp; omega, ?_, ?_, by simp; omega⟩
    · intro c hc
      rcases List.mem_append.1 hc with hc | hc
      · exact a4 c hc
      · obtain ⟨k, hk, rfl⟩ := List.mem_map.1 hc
        have := hf k hk
        show n.now < n.now + k
        omega
    · rw [List.countP_append, List.countP_map]
      have : fates.countP (hit n.now l fates ∘ fun k => dueAt l (n.now + k)) = fates.length := by
        rw [List.countP_eq_length]
        intro k hk
        show hit n.now l fates (dueAt l (n.now + k)) = true
        unfold hit dueAt
        simp only [decide_true, Bool.true_and, List.any_eq_true, decide_eq_true_eq]
        exact ⟨k, hk, by omega⟩
      omega
theorem comes_tick {n : NetD} {l : LetterD} {fates : List Int} {k : Nat} {q : NetD} {w : Int} (h : ComesInv n l fates k q w) :
    netTick q = (⟨q.now + 1, q.way.filter fun l => !decide (l.due = q.now + 1)⟩, q.way.filter fun l => decide (l.due = q.now + 1), 0) := by
  have hc : netCheck q = 0 := netCheck_of (by have := h.now; have := h.n0; have := h.k1; omega) h.len h.due
  unfold netTick
  rw [if_neg (by omega), if_neg (by have := h.now; have := h.n0; have := h.k1; omega)]
theorem comes_step {n : NetD} {l : LetterD} {fates : List Int} {k : Nat} {q : NetD} {w : Int} (h : ComesInv n l fates k q w) (hk : k < 101) :
    ComesInv n l fates (k + 1) (netTick q).1 (w + ((netTick q).2.1.countP (hit n.now l fates) : Nat)) := by
  rw [comes_tick h]
  have hs := countP_split (hit n.now l fates) (fun l => decide (l.due = q.now + 1)) q.way
  have hl := filter_split_len (fun l => decide (l.due = q.now + 1)) q.way
  have hle : (q.way.filter fun l => decide (l.due = q.now + 1)).countP (hit n.now l fates) ≤ _ := List.countP_le_length
  have h1 := h.cnt; have h2 := h.bd; have h3 := h.len
  refine ⟨by have := h.now; simp only; omega, h.n0, h.fs, by omega, by simp only; omega, ?_, by simp only; omega, by simp only; omega⟩
  intro c hc
  obtain ⟨hc1, hc2⟩ := List.mem_filter.1 hc
  have := h.due c hc1
  simp at hc2
  simp only; omega
theorem comes_come {n : NetD} {l : LetterD} {fates : List Int} {k : Nat} {q : NetD} {w : Int} (h : ComesInv n l fates k q w) : (netTick q).2.2 = 0 ∧ (netTick q).1.now = q.now + 1 ∧ (netTick q).2.1.length ≤ q.way.length ∧ ∀ (i : Nat) (c : LetterD), (netTick q).2.1[i]? = some c → c.due = q.now + 1 := by
  rw [comes_tick h]
  refine ⟨rfl, rfl, List.length_filter_le _ _, fun i c hc => ?_⟩
  have := (List.mem_filter.1 (List.mem_of_getElem? (show (q.way.filter fun l => decide (l.due = q.now + 1))[i]? = some c from hc))).2
  simpa using this
theorem comes_end {n : NetD} {l : LetterD} {fates : List Int} {q : NetD} {w : Int} (h : ComesInv n l fates 101 q w) : (fates.length : Int) ≤ w := by
  have h1 := h.cnt
  have : q.way.countP (hit n.now l fates) = 0 := by
    rw [List.countP_eq_zero]
    intro c hc hh
    unfold hit at hh
    simp only [Bool.and_eq_true, List.any_eq_true, decide_eq_true_eq] at hh
    obtain ⟨_, x, hx, e⟩ := hh
    have := h.fs x hx
    have := h.due c hc
    have := h.now
    omega
  omega
theorem netSend_err {n : NetD} {l : LetterD} {fates : List Int} (h : ¬ (netSend n l fates).2 = 0) : (netSend n l fates).1.way = [] := by
  revert h; unfold netSend netZ; (repeat' split) <;> simp

theorem netOwn1_con (G : Mem) (vs_l : List Value) (l : LetterD) (h_l : ELetter.R G vs_l l)  : Con Try.prog 14 #[.agg vs_l.toArray] G [] (fun u G' L' => ∃ (a1 : Option Addr) (c2 : Nat) (a3 : Option Addr) (c4 : Nat) (a5 : Option Addr) (c6 : Nat), u = .agg #[I l.to_, I l.from_, I l.since, I l.due, Sl a1 l.heads.length c2, I l.reply.head.epoch, U l.reply.head.root, U l.reply.head.prev, I l.reply.head.at_, Sr l.reply.proof.name, Sl a3 l.reply.proof.entries.length c4, Sl a5 l.reply.proof.sides.length c6] ∧ (-9223372036854775808 ≤ l.to_ ∧ l.to_ < 9223372036854775808) ∧ (-9223372036854775808 ≤ l.from_ ∧ l.from_ < 9223372036854775808) ∧ (-9223372036854775808 ≤ l.since ∧ l.since < 9223372036854775808) ∧ (-9223372036854775808 ≤ l.due ∧ l.due < 9223372036854775808) ∧ (RS EHead G' a1 c2 l.heads) ∧ (-9223372036854775808 ≤ l.reply.head.epoch ∧ l.reply.head.epoch < 9223372036854775808) ∧ (0 ≤ l.reply.head.root ∧ l.reply.head.root < 18446744073709551616) ∧ (0 ≤ l.reply.head.prev ∧ l.reply.head.prev < 18446744073709551616) ∧ (-9223372036854775808 ≤ l.reply.head.at_ ∧ l.reply.head.at_ < 9223372036854775808) ∧ ((l.reply.proof.name).length ≤ 140737488351232) ∧ (RS EEnt G' a3 c4 l.reply.proof.entries) ∧ (RS EU G' a5 c6 l.reply.proof.sides) ∧ L' = []) := by
  obtain ⟨a1, c1, a2, c2, a3, c3, rfl, w1, w2, w3, w4, hs1, w5, w6, w7, w8, w9, hs2, hs3⟩ := h_l
  refine con_of Try.func14 24 [(0, .agg #[I l.to_, I l.from_, I l.since, I l.due, Sl a1 l.heads.length c1, I l.reply.head.epoch, U l.reply.head.root, U l.reply.head.prev, I l.reply.head.at_, Sr l.reply.proof.name, Sl a2 l.reply.proof.entries.length c2, Sl a3 l.reply.proof.sides.length c3])] rfl (fun w0 G0 => ?_)
  refine tc_seq ?_
  refine tc_region ?_
  refine runL_box 1 #[I l.to_, I l.from_, I l.since, I l.due, Sl a1 l.heads.length c1, I l.reply.head.epoch, U l.reply.head.root, U l.reply.head.prev, I l.reply.head.at_, Sr l.reply.proof.name, Sl a2 l.reply.proof.entries.length c2, Sl a3 l.reply.proof.sides.length c3] 36 (fun b1 => ?_)
  refine runL_box 2 #[I 0, I 0, I 0, I 0, Sl none 0 0, I 0, U 0, U 0, I 0, Sr ([]), Sl none 0 0, Sl none 0 0] 36 (fun b2 => ?_)
  refine runL_nil ?_
  refine tq_then ?_
  refine tc_seq ?_
  refine tc_region ?_
  refine runL_b [0,4] [(1, Pt b1 0), (2, Pt b2 0), (4, Sl a1 l.heads.length c1)] ?_
  refine runL_callR 5 (sclone_EHead G a1 c1 l.heads hs1) (fun v G1 L1 hl1 hp => ?_)
  obtain ⟨a4, c4, r1, rfl, hr1, rfl⟩ := hp
  refine runL_bs [0,7] [(1, Pt b1 0), (2, Pt b2 0)] [r1, [Sg b2 0 [I 0, I 0, I 0, I 0, Sl none 0 0, I 0, U 0, U 0, I 0, Sr ([]), Sl none 0 0, Sl none 0 0]], [Sg b1 0 [I l.to_, I l.from_, I l.since, I l.due, Sl a4 l.heads.length c4, I l.reply.head.epoch, U l.reply.head.root, U l.reply.head.prev, I l.reply.head.at_, Sr l.reply.proof.name, Sl a2 l.reply.proof.entries.length c2, Sl a3 l.reply.proof.sides.length c3]]] ?_
  refine runL_nil ?_
  refine tq_then ?_
  refine tc_seq ?_
  refine tc_region ?_
  refine runL_b [0,0,0,6] [(1, Pt b1 0), (2, Pt b2 0), (10, Sl a2 l.reply.proof.entries.length c2)] ?_
  refine runL_callR 11 (sclone_EEnt G1 a2 c2 l.reply.proof.entries (hs2.mono hl1)) (fun v G2 L1 hl2 hp => ?_)
  obtain ⟨a5, c5, r2, rfl, hr2, rfl⟩ := hp
  refine runL_bs [0,0,0,9] [(1, Pt b1 0), (2, Pt b2 0)] [r2, r1, [Sg b2 0 [I 0, I 0, I 0, I 0, Sl none 0 0, I 0, U 0, U 0, I 0, Sr ([]), Sl none 0 0, Sl none 0 0]], [Sg b1 0 [I l.to_, I l.from_, I l.since, I l.due, Sl a4 l.heads.length c4, I l.reply.head.epoch, U l.reply.head.root, U l.reply.head.prev, I l.reply.head.at_, Sr l.reply.proof.name, Sl a5 l.reply.proof.entries.length c5, Sl a3 l.reply.proof.sides.length c3]]] ?_
  refine runL_nil ?_
  refine tq_then ?_
  refine tc_seq ?_
  refine tc_region ?_
  refine runL_b [0,0,0,8] [(1, Pt b1 0), (2, Pt b2 0), (18, Sl a3 l.reply.proof.sides.length c3)] ?_
  refine runL_callR 19 (sclone_EU G2 a3 c3 l.reply.proof.sides (hs3.mono (Mem.le_trans hl1 hl2))) (fun v G3 L1 hl3 hp => ?_)
  obtain ⟨a6, c6, r3, rfl, hr3, rfl⟩ := hp
  refine runL_bs [0,0,0,11] [(1, Pt b1 0), (2, Pt b2 0)] [r3, r2, r1, [Sg b2 0 [I 0, I 0, I 0, I 0, Sl none 0 0, I 0, U 0, U 0, I 0, Sr ([]), Sl none 0 0, Sl none 0 0]], [Sg b1 0 [I l.to_, I l.from_, I l.since, I l.due, Sl a4 l.heads.length c4, I l.reply.head.epoch, U l.reply.head.root, U l.reply.head.prev, I l.reply.head.at_, Sr l.reply.proof.name, Sl a5 l.reply.proof.entries.length c5, Sl a6 l.reply.proof.sides.length c6]]] ?_
  refine runL_nil ?_
  refine tq_then ?_
  refine tc_rbs [10,9] [(2, Pt b2 0)] [r3, r2, r1, [Sg b2 0 [I l.to_, I l.from_, I l.since, I l.due, Sl a4 l.heads.length c4, I l.reply.head.epoch, U l.reply.head.root, U l.reply.head.prev, I l.reply.head.at_, Sr l.reply.proof.name, Sl a5 l.reply.proof.entries.length c5, Sl a6 l.reply.proof.sides.length c6]], [Sg b1 0 [I l.to_, I l.from_, I l.since, I l.due, Sl a4 l.heads.length c4, I l.reply.head.epoch, U l.reply.head.root, U l.reply.head.prev, I l.reply.head.at_, Sr l.reply.proof.name, Sl a5 l.reply.proof.entries.length c5, Sl a6 l.reply.proof.sides.length c6]]] ?_
  refine tc_ret ?_
  refine tq_frzR (E := EHead) 2 (hr1.mono (Mem.le_trans hl2 hl3)) (by exact (hs1).fit) (fun G4 hl4 hs4 => ?_)
  refine tq_frzR (E := EEnt) 1 (hr2.mono (Mem.le_trans hl3 hl4)) (by exact ((hs2.mono hl1)).fit) (fun G5 hl5 hs5 => ?_)
  refine tq_frzR (E := EU) 0 (hr3.mono (Mem.le_trans hl4 hl5)) (by exact ((hs3.mono (Mem.le_trans hl1 hl2))).fit) (fun G6 hl6 hs6 => ?_)
  have hf1 : l = l := by
    rfl
  refine tq_ret [3] [.agg #[I l.to_, I l.from_, I l.since, I l.due, Sl a4 l.heads.length c4, I l.reply.head.epoch, U l.reply.head.root, U l.reply.head.prev, I l.reply.head.at_, Sr l.reply.proof.name, Sl a5 l.reply.proof.entries.length c5, Sl a6 l.reply.proof.sides.length c6]] (bp_rows [] (.cons _ (.cons _ (.cons _ (.cons _ (.cons _ .slnil))))) (Mem.le_trans (Mem.le_trans (Mem.le_trans (Mem.le_trans (Mem.le_trans hl1 hl2) hl3) hl4) hl5) hl6) ?_)
  rw [hf1]
  try dsimp only
  exact ⟨a4, c4, a5, c5, a6, c6, rfl, w1, w2, w3, w4, (hs4.mono (Mem.le_trans hl5 hl6)), w5, w6, w7, w8, w9, (hs5.mono hl6), hs6, rfl⟩

theorem netOwned_con (G : Mem) (a_l : Option Addr) (c_l : Nat) (l : List LetterD) (h_l : RS ELetter G a_l c_l l) (hf : l.length * 152 ≤ 140737488351232) : Con Try.prog 13 #[Sl a_l l.length c_l] G [] (fun u G' L' => ∃ (a1 : Option Addr) (c2 : Nat) (r3 : List Seg), u = Sl a1 l.length c2 ∧ (TRow ELetter G' a1 c2 l r3) ∧ L' = [r3]) := by
  refine con_of Try.func13 19 [(0, Sl a_l l.length c_l)] rfl (fun w0 G0 => ?_)
  refine tc_rb [0] [(0, Sl a_l l.length c_l)] ?_
  refine tc_rb [0] [(0, Sl a_l l.length c_l), (3, Sl none 0 0)] ?_
  refine tc_seq ?_
  refine tc_rb [0,0,0] [(3, Sl none 0 0), (6, Sl a_l l.length c_l), (7, I (((l.length : Nat) : Int))), (8, I 0)] ?_
  refine tc_block ?_
  refine tc_empty ?_
  have hlm_h_l : l.length ≤ 9223372036854775807 := Nat.le_trans (h_l).le (h_l).max
  refine tc_loop (σ := Nat × Option Addr × Nat × List Seg × List LetterD × Mem) (fun q_ => (Mem.le G q_.2.2.2.2.2) ∧ (q_.1 ≤ l.length) ∧ (TRow ELetter q_.2.2.2.2.2 q_.2.1 q_.2.2.1 q_.2.2.2.2.1 q_.2.2.2.1) ∧ (q_.2.2.2.2.1 = l.take q_.1)) (fun q_ => [(3, Sl q_.2.1 q_.2.2.2.2.1.length q_.2.2.1), (6, Sl a_l l.length c_l), (7, I (((l.length : Nat) : Int))), (8, I ((q_.1 : Int)))]) (fun q_ => q_.2.2.2.2.2) (fun q_ => [q_.2.2.2.1]) (fun q_ => l.length - q_.1) ((0, none, 0, [], [], G)) ⟨(Mem.le_refl _), (by (try dsimp only); first | exact Nat.zero_le _ | omega | simp), (TRow.none ELetter _), (by (try dsimp only); first | rfl | simp)⟩ (fun q_ hs => ?_)
  obtain ⟨i, ao, co, ro, xo, g⟩ := q_
  obtain ⟨hle, hi, hro, hxo⟩ := hs
  dsimp only at hle hi hro hxo
  refine tc_eq (fr' := [(3, Sl ao xo.length co), (6, Sl a_l l.length c_l), (7, I (((l.length : Nat) : Int))), (8, I ((i : Int)))]) (L' := [ro]) rfl rfl ?_
  refine tc_rb [0] [(3, Sl ao xo.length co), (6, Sl a_l l.length c_l), (7, I (((l.length : Nat) : Int))), (8, I ((i : Int))), (9, Bo (decide ((i : Int) < ((l.length : Nat) : Int))))] ?_
  refine tc_seq ?_
  refine tc_cond (decide ((i : Int) < ((l.length : Nat) : Int))) (fun h1 => ?_) (fun h1 => ?_)
  ·
    try simp only [decide_eq_true_eq, decide_eq_false_iff_not, Bool.and_eq_true, Bool.or_eq_true, Bool.and_eq_false_imp, Bool.or_eq_false_iff, Bool.not_eq_true', Bool.not_eq_false', Bool.not_eq_true, Bool.not_eq_false, beq_iff_eq, beq_eq_false_iff_ne, bne_iff_ne, ne_eq, Decidable.not_not, Int.not_lt, Int.not_le] at h1
    refine tc_skip ?_
    refine tq_then ?_
    refine tc_seq ?_
    refine tc_block ?_
    refine tc_seq ?_
    refine tc_region ?_
    obtain ⟨b1, o1, rfl⟩ := RS.addr (h_l.mono hle) (k := i) (by omega)
    obtain ⟨x1, hx1⟩ := getX (l := l) (k := i) (by omega)
    obtain ⟨_, ⟨a1, c1, a2, c2, a3, c3, rfl, w1, w2, w3, w4, hs1, w5, w6, w7, w8, w9, hs2, hs3⟩, hc1⟩ := RS.get (h_l.mono hle) hx1
    refine runL_idx (b := b1) (off := o1) (len := l.length) (cap := c_l) (ik := .i64) 10 36 12 i (by omega) ?_
    refine runL_ldG 11 36 (cs := [I x1.to_, I x1.from_, I x1.since, I x1.due, Sl a1 x1.heads.length c1, I x1.reply.head.epoch, U x1.reply.head.root, U x1.reply.head.prev, I x1.reply.head.at_, Sr x1.reply.proof.name, Sl a2 x1.reply.proof.entries.length c2, Sl a3 x1.reply.proof.sides.length c3]) 0 (.agg #[I x1.to_, I x1.from_, I x1.since, I x1.due, Sl a1 x1.heads.length c1, I x1.reply.head.epoch, U x1.reply.head.root, U x1.reply.head.prev, I x1.reply.head.at_, Sr x1.reply.proof.name, Sl a2 x1.reply.proof.entries.length c2, Sl a3 x1.reply.proof.sides.length c3]) hc1 ?_
    refine runL_box 5 #[I 0, I 0, I 0, I 0, Sl none 0 0, I 0, U 0, U 0, I 0, Sr ([]), Sl none 0 0, Sl none 0 0] 36 (fun b2 => ?_)
    refine runL_bs [3] [(3, Sl ao xo.length co), (5, Pt b2 0), (6, Sl (At b1 o1) l.length c_l), (7, I (((l.length : Nat) : Int))), (8, I ((i : Int)))] [[Sg b2 0 [I x1.to_, I x1.from_, I x1.since, I x1.due, Sl a1 x1.heads.length c1, I x1.reply.head.epoch, U x1.reply.head.root, U x1.reply.head.prev, I x1.reply.head.at_, Sr x1.reply.proof.name, Sl a2 x1.reply.proof.entries.length c2, Sl a3 x1.reply.proof.sides.length c3]], ro] ?_
    refine runL_nil ?_
    refine tq_then ?_
    refine tc_region ?_
    refine runL_b [0,2] [(3, Sl ao xo.length co), (6, Sl (At b1 o1) l.length c_l), (7, I (((l.length : Nat) : Int))), (8, I ((i : Int))), (12, Sl ao xo.length co), (13, .agg #[I x1.to_, I x1.from_, I x1.since, I x1.due, Sl a1 x1.heads.length c1, I x1.reply.head.epoch, U x1.reply.head.root, U x1.reply.head.prev, I x1.reply.head.at_, Sr x1.reply.proof.name, Sl a2 x1.reply.proof.entries.length c2, Sl a3 x1.reply.proof.sides.length c3])] ?_
    refine runL_callR 14 (netOwn1_con g [I x1.to_, I x1.from_, I x1.since, I x1.due, Sl a1 x1.heads.length c1, I x1.reply.head.epoch, U x1.reply.head.root, U x1.reply.head.prev, I x1.reply.head.at_, Sr x1.reply.proof.name, Sl a2 x1.reply.proof.entries.length c2, Sl a3 x1.reply.proof.sides.length c3] x1 (⟨a1, c1, a2, c2, a3, c3, rfl, w1, w2, w3, w4, hs1, w5, w6, w7, w8, w9, hs2, hs3⟩)) (fun v G1 L1 hl1 hp => ?_)
    obtain ⟨a4, c4, a5, c5, a6, c6, rfl, w10, w11, w12, w13, hs4, w14, w15, w16, w17, w18, hs5, hs6, rfl⟩ := hp
    refine runL_bsl 15 1 #[I x1.to_, I x1.from_, I x1.since, I x1.due, Sl a4 x1.heads.length c4, I x1.reply.head.epoch, U x1.reply.head.root, U x1.reply.head.prev, I x1.reply.head.at_, Sr x1.reply.proof.name, Sl a5 x1.reply.proof.entries.length c5, Sl a6 x1.reply.proof.sides.length c6] 36 (fun b3 => ?_)
    refine runL_app1' (b := b3) (cs := [I x1.to_, I x1.from_, I x1.since, I x1.due, Sl a4 x1.heads.length c4, I x1.reply.head.epoch, U x1.reply.head.root, U x1.reply.head.prev, I x1.reply.head.at_, Sr x1.reply.proof.name, Sl a5 x1.reply.proof.entries.length c5, Sl a6 x1.reply.proof.sides.length c6]) 16 36 2 0 (E := ELetter) x1 (hro.mono hl1) ⟨a4, c4, a5, c5, a6, c6, rfl, w10, w11, w12, w13, hs4, w14, w15, w16, w17, w18, hs5, hs6⟩ (by have q1_ := congrArg List.length hxo; (try simp only [ELetter, List.length_append, List.length_cons, List.length_nil, List.length_take, List.length_map] at *); omega) (by have q1_ := congrArg List.length hxo; (try simp only [ELetter, List.length_append, List.length_cons, List.length_nil, List.length_take, List.length_map] at *); omega) (fun a7 c7 r1 hr1 => ?_)
    refine runL_b [0] [(3, Sl a7 ((xo ++ [x1]).length) c7), (6, Sl (At b1 o1) l.length c_l), (7, I (((l.length : Nat) : Int))), (8, I ((i : Int)))] ?_
    refine runL_nil ?_
    refine tq_block ?_
    refine tq_then ?_
    refine tc_region ?_
    refine runL_b [0,0] [(3, Sl a7 ((xo ++ [x1]).length) c7), (6, Sl (At b1 o1) l.length c_l), (7, I (((l.length : Nat) : Int))), (8, I (IntKind.i64.wrap (((i : Int)) + 1)))] ?_
    have e1 : IntKind.i64.wrap (((i : Int)) + 1) = ((i : Int)) + 1 := IntWalk.i64_in _ (by omega)
    refine runL_eq (fr' := [(3, Sl a7 ((xo ++ [x1]).length) c7), (6, Sl (At b1 o1) l.length c_l), (7, I (((l.length : Nat) : Int))), (8, I (((i : Int)) + 1))]) (L' := [[Sg b3 0 [I x1.to_, I x1.from_, I x1.since, I x1.due, Sl a4 x1.heads.length c4, I x1.reply.head.epoch, U x1.reply.head.root, U x1.reply.head.prev, I x1.reply.head.at_, Sr x1.reply.proof.name, Sl a5 x1.reply.proof.entries.length c5, Sl a6 x1.reply.proof.sides.length c6]], [Sg b2 0 [I x1.to_, I x1.from_, I x1.since, I x1.due, Sl a1 x1.heads.length c1, I x1.reply.head.epoch, U x1.reply.head.root, U x1.reply.head.prev, I x1.reply.head.at_, Sr x1.reply.proof.name, Sl a2 x1.reply.proof.entries.length c2, Sl a3 x1.reply.proof.sides.length c3]], r1]) (by simp only [e1]) (by rfl) ?_
    clear e1
    refine runL_nil ?_
    refine tq_owns [r1] ((.cons _ (.cons _ (.cons_cons _ .slnil)))) ?_
    exact tq_rnd ((i + 1, a7, c7, r1, xo ++ [x1], G1)) ⟨(Mem.le_trans hle hl1), (by omega), hr1, (by rw [hxo]; exact take_snoc hx1)⟩ (by (try dsimp only); omega)
  ·
    try simp only [decide_eq_true_eq, decide_eq_false_iff_not, Bool.and_eq_true, Bool.or_eq_true, Bool.and_eq_false_imp, Bool.or_eq_false_iff, Bool.not_eq_true', Bool.not_eq_false', Bool.not_eq_true, Bool.not_eq_false, beq_iff_eq, beq_eq_false_iff_ne, bne_iff_ne, ne_eq, Decidable.not_not, Int.not_lt, Int.not_le] at h1
    refine tc_exit ?_
    refine tq_then_exit ?_
    refine tq_rnd_exit ?_
    refine tq_block_here ?_
    refine tq_then ?_
    refine tc_rb [0,0] [(2, Sl ao xo.length co)] ?_
    refine tc_ret ?_
    refine tq_front 0 ?_
    have hf1 : l = xo := by
      rw [hxo, List.take_of_length_le (by omega)]
    refine tq_ret [0] [Sl ao xo.length co] (bp_rows [ro] (.cons_cons _ .slnil) hle ?_)
    rw [hf1]
    try dsimp only
    exact ⟨ao, co, ro, rfl, hro, rfl⟩

theorem lDue_con (G : Mem) (vs_l : List Value) (l : LetterD) (h_l : ELetter.R G vs_l l) (vs_n : List Value) (n : NetD) (h_n : ENet.R G vs_n n) (b_n : Nat) (hz_n : ∀ j v, (vs_n : List Value)[j]? = some v → G b_n (0 + j) = some v)  : Con Try.prog 16 #[.agg vs_l.toArray, Pt b_n 0] G [] (fun u G' L' => u = Bo (lDue l n)) := by
  obtain ⟨a1, c1, a2, c2, a3, c3, rfl, w1, w2, w3, w4, hs1, w5, w6, w7, w8, w9, hs2, hs3⟩ := h_l
  obtain ⟨a4, c4, rfl, w10, hs4⟩ := h_n
  refine con_of Try.func16 9 [(0, .agg #[I l.to_, I l.from_, I l.since, I l.due, Sl a1 l.heads.length c1, I l.reply.head.epoch, U l.reply.head.root, U l.reply.head.prev, I l.reply.head.at_, Sr l.reply.proof.name, Sl a2 l.reply.proof.entries.length c2, Sl a3 l.reply.proof.sides.length c3]), (1, Pt b_n 0)] rfl (fun w0 G0 => ?_)
  refine tc_seq ?_
  refine tc_region ?_
  refine runL_box 2 #[I l.to_, I l.from_, I l.since, I l.due, Sl a1 l.heads.length c1, I l.reply.head.epoch, U l.reply.head.root, U l.reply.head.prev, I l.reply.head.at_, Sr l.reply.proof.name, Sl a2 l.reply.proof.entries.length c2, Sl a3 l.reply.proof.sides.length c3] 36 (fun b1 => ?_)
  refine runL_b [0] [(1, Pt b_n 0), (2, Pt b1 0)] ?_
  refine runL_nil ?_
  refine tq_then ?_
  refine tc_seq ?_
  refine tc_region ?_
  refine runL_b [0,2,0] [(5, I l.due), (6, Pt b_n 0)] ?_
  refine runL_ldG (o' := 0) 7 2 (cs := [I n.now, Sl a4 n.way.length c4]) 0 (I n.now) hz_n ?_
  refine runL_b [0,0] [(3, Bo (decide (l.due ≤ n.now)))] ?_
  refine runL_nil ?_
  refine tq_then ?_
  refine tc_ret ?_
  refine tq_ret [0] [Bo (decide (l.due ≤ n.now))] (bp_ret (Mem.le_refl _) ?_)
  have hf_ : (lDue l n) = (decide (l.due ≤ n.now)) := by
    rfl
  (try rw [hf_]); first | with_reducible rfl | (simp only [packR]; done) | rfl

theorem netCheck_con (G : Mem) (vs_n : List Value) (n : NetD) (h_n : ENet.R G vs_n n)  : Con Try.prog 10 #[.agg vs_n.toArray] G [] (fun u G' L' => u = I (netCheck n)) := by
  obtain ⟨a1, c1, rfl, w1, hs1⟩ := h_n
  refine con_of Try.func10 22 [(0, .agg #[I n.now, Sl a1 n.way.length c1])] rfl (fun w0 G0 => ?_)
  refine tc_seq ?_
  refine tc_region ?_
  refine runL_box 1 #[I n.now, Sl a1 n.way.length c1] 24 (fun b1 => ?_)
  refine runL_b [0] [(1, Pt b1 0)] ?_
  refine runL_nil ?_
  refine tq_then ?_
  refine tc_seq ?_
  refine tc_block ?_
  refine tc_seq ?_
  refine tc_region ?_
  refine runL_b [0,2,0,0] [(1, Pt b1 0), (7, Bo (decide (n.now < 0)))] ?_
  refine runL_b2 (decide (n.now < 0)) (fun bb => [(1, Pt b1 0), (7, Bo bb)]) [1,1,1,0] [0,2,0,0] (fun bb => [(1, Pt b1 0), (11, Bo (bb || (decide (n.now > 1000000000))))]) ?_
  refine runL_b [0] [(1, Pt b1 0), (3, Bo ((decide (n.now < 0)) || (decide (n.now > 1000000000))))] ?_
  refine runL_nil ?_
  refine tq_then ?_
  refine tc_cond ((decide (n.now < 0)) || (decide (n.now > 1000000000))) (fun h1 => ?_) (fun h1 => ?_)
  ·
    try simp only [decide_eq_true_eq, decide_eq_false_iff_not, Bool.and_eq_true, Bool.or_eq_true, Bool.and_eq_false_imp, Bool.or_eq_false_iff, Bool.not_eq_true', Bool.not_eq_false', Bool.not_eq_true, Bool.not_eq_false, beq_iff_eq, beq_eq_false_iff_ne, bne_iff_ne, ne_eq, Decidable.not_not, Int.not_lt, Int.not_le] at h1
    refine tc_rb [0] [(2, I 4)] ?_
    refine tc_ret ?_
    refine tq_block_ret ?_
    refine tq_then_ret ?_
    refine tq_ret [0] [I 4] (bp_ret (Mem.le_refl _) ?_)
    have hf_ : (netCheck n) = 4 := by
      unfold netCheck; first | (rw [if_pos (by omega)]; done) | (rw [if_neg (by omega), if_pos (by omega)]; done) | (rw [if_neg (by omega), if_neg (by omega)]; simp_all; done)
    (try rw [hf_]); first | with_reducible rfl | (simp only [packR]; done) | rfl
  ·
    try simp only [decide_eq_true_eq, decide_eq_false_iff_not, Bool.and_eq_true, Bool.or_eq_true, Bool.and_eq_false_imp, Bool.or_eq_false_iff, Bool.not_eq_true', Bool.not_eq_false', Bool.not_eq_true, Bool.not_eq_false, beq_iff_eq, beq_eq_false_iff_ne, bne_iff_ne, ne_eq, Decidable.not_not, Int.not_lt, Int.not_le] at h1
    refine tc_rb [0,2,0,0,0] [(1, Pt b1 0), (12, Bo (decide (((n.way.length : Nat) : Int) > 60)))] ?_
    refine tc_cond (decide (((n.way.length : Nat) : Int) > 60)) (fun h2 => ?_) (fun h2 => ?_)
    ·
      try simp only [decide_eq_true_eq, decide_eq_false_iff_not, Bool.and_eq_true, Bool.or_eq_true, Bool.and_eq_false_imp, Bool.or_eq_false_iff, Bool.not_eq_true', Bool.not_eq_false', Bool.not_eq_true, Bool.not_eq_false, beq_iff_eq, beq_eq_false_iff_ne, bne_iff_ne, ne_eq, Decidable.not_not, Int.not_lt, Int.not_le] at h2
      refine tc_rb [0] [(2, I 7)] ?_
      refine tc_ret ?_
      refine tq_block_ret ?_
      refine tq_then_ret ?_
      refine tq_ret [0] [I 7] (bp_ret (Mem.le_refl _) ?_)
      have hf_ : (netCheck n) = 7 := by
        unfold netCheck; first | (rw [if_pos (by omega)]; done) | (rw [if_neg (by omega), if_pos (by omega)]; done) | (rw [if_neg (by omega), if_neg (by omega)]; simp_all; done)
      (try rw [hf_]); first | with_reducible rfl | (simp only [packR]; done) | rfl
    ·
      try simp only [decide_eq_true_eq, decide_eq_false_iff_not, Bool.and_eq_true, Bool.or_eq_true, Bool.and_eq_false_imp, Bool.or_eq_false_iff, Bool.not_eq_true', Bool.not_eq_false', Bool.not_eq_true, Bool.not_eq_false, beq_iff_eq, beq_eq_false_iff_ne, bne_iff_ne, ne_eq, Decidable.not_not, Int.not_lt, Int.not_le] at h2
      refine tc_seq ?_
      refine tc_region ?_
      refine runL_b [0,2,0] [(19, Sl a1 n.way.length c1), (20, .func (.func 16) #[] #[Pt b1 0])] ?_
      refine runL_frz1 (b := b1) (o := 0) (cs := [I n.now, Sl a1 n.way.length c1]) 0 (fun G1 hl1 hz1 => ?_)
      refine runL_callV 21 (Bo (n.way.any ((fun x0 => lDue x0 n)))) (sany_ELetter G1 a1 c1 n.way (hs1.mono hl1) 16 #[Pt b1 0] ((fun x0 => lDue x0 n)) ((fun _ _ => by kernel_rfl)) ((fun vs0 x0 hx0 => by obtain ⟨a2, c2, a3, c3, a4, c4, rfl, w2, w3, w4, w5, hs2, w6, w7, w8, w9, w10, hs3, hs4⟩ := hx0; exact lDue_con G1 [I x0.to_, I x0.from_, I x0.since, I x0.due, Sl a2 x0.heads.length c2, I x0.reply.head.epoch, U x0.reply.head.root, U x0.reply.head.prev, I x0.reply.head.at_, Sr x0.reply.proof.name, Sl a3 x0.reply.proof.entries.length c3, Sl a4 x0.reply.proof.sides.length c4] x0 (⟨a2, c2, a3, c3, a4, c4, rfl, w2, w3, w4, w5, hs2, w6, w7, w8, w9, w10, hs3, hs4⟩) [I n.now, Sl a1 n.way.length c1] n (⟨a1, c1, rfl, w1, (hs1.mono hl1)⟩) b1 hz1))) ?_
      refine runL_b [0] [(17, Bo (n.way.any ((fun x0 => lDue x0 n))))] ?_
      refine runL_nil ?_
      refine tq_then ?_
      refine tc_cond (n.way.any ((fun x0 => lDue x0 n))) (fun h3 => ?_) (fun h3 => ?_)
      ·
        try simp only [decide_eq_true_eq, decide_eq_false_iff_not, Bool.and_eq_true, Bool.or_eq_true, Bool.and_eq_false_imp, Bool.or_eq_false_iff, Bool.not_eq_true', Bool.not_eq_false', Bool.not_eq_true, Bool.not_eq_false, beq_iff_eq, beq_eq_false_iff_ne, bne_iff_ne, ne_eq, Decidable.not_not, Int.not_lt, Int.not_le] at h3
        refine tc_rb [0] [(2, I 4)] ?_
        refine tc_ret ?_
        refine tq_block_ret ?_
        refine tq_then_ret ?_
        refine tq_ret [0] [I 4] (bp_ret hl1 ?_)
        have hf_ : (netCheck n) = 4 := by
          unfold netCheck; first | (rw [if_pos (by omega)]; done) | (rw [if_neg (by omega), if_pos (by omega)]; done) | (rw [if_neg (by omega), if_neg (by omega)]; simp_all; done)
        (try rw [hf_]); first | with_reducible rfl | (simp only [packR]; done) | rfl
      ·
        try simp only [decide_eq_true_eq, decide_eq_false_iff_not, Bool.and_eq_true, Bool.or_eq_true, Bool.and_eq_false_imp, Bool.or_eq_false_iff, Bool.not_eq_true', Bool.not_eq_false', Bool.not_eq_true, Bool.not_eq_false, beq_iff_eq, beq_eq_false_iff_ne, bne_iff_ne, ne_eq, Decidable.not_not, Int.not_lt, Int.not_le] at h3
        refine tc_skip ?_
        refine tq_block ?_
        refine tq_then ?_
        refine tc_rb [0] [(2, I 0)] ?_
        refine tc_ret ?_
        refine tq_ret [0] [I 0] (bp_ret hl1 ?_)
        have hf_ : (netCheck n) = 0 := by
          unfold netCheck; first | (rw [if_pos (by omega)]; done) | (rw [if_neg (by omega), if_pos (by omega)]; done) | (rw [if_neg (by omega), if_neg (by omega)]; simp_all; done)
        (try rw [hf_]); first | with_reducible rfl | (simp only [packR]; done) | rfl

theorem fateBad_con (G : Mem) (k : Int)  : Con Try.prog 12 #[I k] G [] (fun u G' L' => u = Bo (fateBad k)) := by
  refine con_of Try.func12 9 [(0, I k)] rfl (fun w0 G0 => ?_)
  refine tc_rb [0] [(0, I k)] ?_
  refine tc_seq ?_
  refine tc_region ?_
  refine runL_b [0,0,0] [(0, I k), (5, Bo (decide (k < 1)))] ?_
  refine runL_b2 (decide (k < 1)) (fun bb => [(0, I k), (5, Bo bb)]) [1,1,0] [0,0,0] (fun bb => [(8, Bo (bb || (decide (k > 100))))]) ?_
  refine runL_b [0] [(2, Bo ((decide (k < 1)) || (decide (k > 100))))] ?_
  refine runL_nil ?_
  refine tq_then ?_
  refine tc_ret ?_
  refine tq_ret [0] [Bo ((decide (k < 1)) || (decide (k > 100)))] (bp_ret (Mem.le_refl _) ?_)
  have hf_ : (fateBad k) = ((decide (k < 1)) || (decide (k > 100))) := by
    rfl
  (try rw [hf_]); first | with_reducible rfl | (simp only [packR]; done) | rfl

theorem netSend_con (G : Mem) (vs_n : List Value) (n : NetD) (h_n : ENet.R G vs_n n) (vs_l : List Value) (l : LetterD) (h_l : ELetter.R G vs_l l) (a_fates : Option Addr) (c_fates : Nat) (fates : List Int) (h_fates : RS EI G a_fates c_fates fates)  : Con Try.prog 7 #[.agg vs_n.toArray, .agg vs_l.toArray, Sl a_fates fates.length c_fates] G [] (fun u G' L' => ∃ (a1 : Option Addr) (c2 : Nat), u = .tuple #[.agg #[I (((netSend n l fates).1).now), Sl a1 ((((netSend n l fates).1).way).length) c2], I ((netSend n l fates).2)] ∧ (-9223372036854775808 ≤ (((netSend n l fates).1).now) ∧ (((netSend n l fates).1).now) < 9223372036854775808) ∧ (RS ELetter G' a1 c2 (((netSend n l fates).1).way)) ∧ L' = []) := by
  obtain ⟨a1, c1, rfl, w1, hs1⟩ := h_n
  obtain ⟨a2, c2, a3, c3, a4, c4, rfl, w2, w3, w4, w5, hs2, w6, w7, w8, w9, w10, hs3, hs4⟩ := h_l
  refine con_of Try.func7 60 [(0, .agg #[I n.now, Sl a1 n.way.length c1]), (1, .agg #[I l.to_, I l.from_, I l.since, I l.due, Sl a2 l.heads.length c2, I l.reply.head.epoch, U l.reply.head.root, U l.reply.head.prev, I l.reply.head.at_, Sr l.reply.proof.name, Sl a3 l.reply.proof.entries.length c3, Sl a4 l.reply.proof.sides.length c4]), (2, Sl a_fates fates.length c_fates)] rfl (fun w0 G0 => ?_)
  refine tc_seq ?_
  refine tc_region ?_
  refine runL_box 3 #[I n.now, Sl a1 n.way.length c1] 24 (fun b1 => ?_)
  refine runL_box 4 #[I l.to_, I l.from_, I l.since, I l.due, Sl a2 l.heads.length c2, I l.reply.head.epoch, U l.reply.head.root, U l.reply.head.prev, I l.reply.head.at_, Sr l.reply.proof.name, Sl a3 l.reply.proof.entries.length c3, Sl a4 l.reply.proof.sides.length c4] 36 (fun b2 => ?_)
  refine runL_box 6 #[I 0, Sl none 0 0] 24 (fun b3 => ?_)
  refine runL_b [0] [(2, Sl a_fates fates.length c_fates), (3, Pt b1 0), (4, Pt b2 0), (6, Pt b3 0)] ?_
  refine runL_nil ?_
  refine tq_then ?_
  refine tc_seq ?_
  refine tc_region ?_
  refine runL_b [6] [(2, Sl a_fates fates.length c_fates), (3, Pt b1 0), (4, Pt b2 0), (6, Pt b3 0), (13, .agg #[I n.now, Sl a1 n.way.length c1])] ?_
  refine runL_callV 14 (I (netCheck n)) (netCheck_con G [I n.now, Sl a1 n.way.length c1] n (⟨a1, c1, rfl, w1, hs1⟩)) ?_
  refine runL_b [0] [(2, Sl a_fates fates.length c_fates), (3, Pt b1 0), (4, Pt b2 0), (6, Pt b3 0), (8, I (netCheck n))] ?_
  refine runL_nil ?_
  refine tq_then ?_
  refine tc_seq ?_
  refine tc_block ?_
  refine tc_rb [0,0,0] [(2, Sl a_fates fates.length c_fates), (3, Pt b1 0), (4, Pt b2 0), (6, Pt b3 0), (8, I (netCheck n)), (15, Bo (!decide (netCheck n = 0)))] ?_
  refine tc_cond (!decide (netCheck n = 0)) (fun h1 => ?_) (fun h1 => ?_)
  ·
    try simp only [decide_eq_true_eq, decide_eq_false_iff_not, Bool.and_eq_true, Bool.or_eq_true, Bool.and_eq_false_imp, Bool.or_eq_false_iff, Bool.not_eq_true', Bool.not_eq_false', Bool.not_eq_true, Bool.not_eq_false, beq_iff_eq, beq_eq_false_iff_ne, bne_iff_ne, ne_eq, Decidable.not_not, Int.not_lt, Int.not_le] at h1
    refine tc_rb [0,0,3,0] [(6, Pt b3 0), (7, I (netCheck n))] ?_
    refine tc_ret ?_
    refine tq_block_ret ?_
    refine tq_then_ret ?_
    have hf1 : netSend n l fates = ((⟨0, []⟩ : NetD), netCheck n) := by
      unfold netSend netZ; first | (simp_all; done) | (rw [if_neg (by omega), if_neg (by simp_all), if_neg (by omega), hxw, List.take_of_length_le (by omega)])
    refine tq_ret [0, 0] [.agg #[I 0, Sl none 0 0], I (netCheck n)] (bp_rows [] (.cons _ (.cons _ (.cons _ .slnil))) (Mem.le_refl _) ?_)
    rw [hf1]
    try dsimp only
    exact ⟨none, 0, rfl, (by first | (first | assumption | omega | (have q_ := netCheck_ok (by assumption); have q1_ := fate_ok (by assumption) (by assumption); omega)) | (dsimp only; first | assumption | omega | (have q_ := netCheck_ok (by assumption); have q1_ := fate_ok (by assumption) (by assumption); omega))), (RS.nil' ELetter G), rfl⟩
  ·
    try simp only [decide_eq_true_eq, decide_eq_false_iff_not, Bool.and_eq_true, Bool.or_eq_true, Bool.and_eq_false_imp, Bool.or_eq_false_iff, Bool.not_eq_true', Bool.not_eq_false', Bool.not_eq_true, Bool.not_eq_false, beq_iff_eq, beq_eq_false_iff_ne, bne_iff_ne, ne_eq, Decidable.not_not, Int.not_lt, Int.not_le] at h1
    refine tc_seq ?_
    refine tc_region ?_
    refine runL_b [0] [(2, Sl a_fates fates.length c_fates), (3, Pt b1 0), (4, Pt b2 0), (6, Pt b3 0), (21, Sl a_fates fates.length c_fates)] ?_
    refine runL_callV 22 (Bo (fates.any ((fun x0 => fateBad x0)))) (sany_EI G a_fates c_fates fates h_fates 12 #[] ((fun x0 => fateBad x0)) ((fun _ _ => by kernel_rfl)) ((fun x0 hx0 => fateBad_con G x0))) ?_
    refine runL_b [0] [(2, Sl a_fates fates.length c_fates), (3, Pt b1 0), (4, Pt b2 0), (6, Pt b3 0), (20, Bo (fates.any ((fun x0 => fateBad x0))))] ?_
    refine runL_nil ?_
    refine tq_then ?_
    refine tc_cond (fates.any ((fun x0 => fateBad x0))) (fun h2 => ?_) (fun h2 => ?_)
    ·
      try simp only [decide_eq_true_eq, decide_eq_false_iff_not, Bool.and_eq_true, Bool.or_eq_true, Bool.and_eq_false_imp, Bool.or_eq_false_iff, Bool.not_eq_true', Bool.not_eq_false', Bool.not_eq_true, Bool.not_eq_false, beq_iff_eq, beq_eq_false_iff_ne, bne_iff_ne, ne_eq, Decidable.not_not, Int.not_lt, Int.not_le] at h2
      refine tc_rb [0,3,0] [(6, Pt b3 0), (7, I 4)] ?_
      refine tc_ret ?_
      refine tq_block_ret ?_
      refine tq_then_ret ?_
      have hf2 : netSend n l fates = ((⟨0, []⟩ : NetD), 4) := by
        unfold netSend netZ; first | (simp_all; done) | (rw [if_neg (by omega), if_neg (by simp_all), if_neg (by omega), hxw, List.take_of_length_le (by omega)])
      refine tq_ret [0, 0] [.agg #[I 0, Sl none 0 0], I 4] (bp_rows [] (.cons _ (.cons _ (.cons _ .slnil))) (Mem.le_refl _) ?_)
      rw [hf2]
      try dsimp only
      exact ⟨none, 0, rfl, (by first | (first | assumption | omega | (have q_ := netCheck_ok (by assumption); have q1_ := fate_ok (by assumption) (by assumption); omega)) | (dsimp only; first | assumption | omega | (have q_ := netCheck_ok (by assumption); have q1_ := fate_ok (by assumption) (by assumption); omega))), (RS.nil' ELetter G), rfl⟩
    ·
      try simp only [decide_eq_true_eq, decide_eq_false_iff_not, Bool.and_eq_true, Bool.or_eq_true, Bool.and_eq_false_imp, Bool.or_eq_false_iff, Bool.not_eq_true', Bool.not_eq_false', Bool.not_eq_true, Bool.not_eq_false, beq_iff_eq, beq_eq_false_iff_ne, bne_iff_ne, ne_eq, Decidable.not_not, Int.not_lt, Int.not_le] at h2
      refine tc_rb [0,0,0,6,0,0,0,0] [(2, Sl a_fates fates.length c_fates), (3, Pt b1 0), (4, Pt b2 0), (6, Pt b3 0), (24, Bo (decide (((fates.length : Nat) : Int) > IntKind.i64.wrap (60 - (((n.way.length : Nat) : Int))))))] ?_
      have e1 : IntKind.i64.wrap (60 - (((n.way.length : Nat) : Int))) = 60 - (((n.way.length : Nat) : Int)) := IntWalk.i64_in _ (by first | omega | (have q_ := netCheck_ok (by assumption); omega) | (have q_ := netCheck_ok (by assumption); have q1_ := fate_ok (by assumption) (by assumption); omega))
      refine tc_eq (fr' := [(2, Sl a_fates fates.length c_fates), (3, Pt b1 0), (4, Pt b2 0), (6, Pt b3 0), (24, Bo (decide (((fates.length : Nat) : Int) > 60 - (((n.way.length : Nat) : Int)))))]) (L' := [[Sg b3 0 [I 0, Sl none 0 0]], [Sg b2 0 [I l.to_, I l.from_, I l.since, I l.due, Sl a2 l.heads.length c2, I l.reply.head.epoch, U l.reply.head.root, U l.reply.head.prev, I l.reply.head.at_, Sr l.reply.proof.name, Sl a3 l.reply.proof.entries.length c3, Sl a4 l.reply.proof.sides.length c4]], [Sg b1 0 [I n.now, Sl a1 n.way.length c1]]]) (by simp only [e1]) (by rfl) ?_
      clear e1
      refine tc_cond (decide (((fates.length : Nat) : Int) > 60 - (((n.way.length : Nat) : Int)))) (fun h3 => ?_) (fun h3 => ?_)
      ·
        try simp only [decide_eq_true_eq, decide_eq_false_iff_not, Bool.and_eq_true, Bool.or_eq_true, Bool.and_eq_false_imp, Bool.or_eq_false_iff, Bool.not_eq_true', Bool.not_eq_false', Bool.not_eq_true, Bool.not_eq_false, beq_iff_eq, beq_eq_false_iff_ne, bne_iff_ne, ne_eq, Decidable.not_not, Int.not_lt, Int.not_le] at h3
        refine tc_rb [0,3,0] [(6, Pt b3 0), (7, I 7)] ?_
        refine tc_ret ?_
        refine tq_block_ret ?_
        refine tq_then_ret ?_
        have hf3 : netSend n l fates = ((⟨0, []⟩ : NetD), 7) := by
          unfold netSend netZ; first | (simp_all; done) | (rw [if_neg (by omega), if_neg (by simp_all), if_neg (by omega), hxw, List.take_of_length_le (by omega)])
        refine tq_ret [0, 0] [.agg #[I 0, Sl none 0 0], I 7] (bp_rows [] (.cons _ (.cons _ (.cons _ .slnil))) (Mem.le_refl _) ?_)
        rw [hf3]
        try dsimp only
        exact ⟨none, 0, rfl, (by first | (first | assumption | omega | (have q_ := netCheck_ok (by assumption); have q1_ := fate_ok (by assumption) (by assumption); omega)) | (dsimp only; first | assumption | omega | (have q_ := netCheck_ok (by assumption); have q1_ := fate_ok (by assumption) (by assumption); omega))), (RS.nil' ELetter G), rfl⟩
      ·
        try simp only [decide_eq_true_eq, decide_eq_false_iff_not, Bool.and_eq_true, Bool.or_eq_true, Bool.and_eq_false_imp, Bool.or_eq_false_iff, Bool.not_eq_true', Bool.not_eq_false', Bool.not_eq_true, Bool.not_eq_false, beq_iff_eq, beq_eq_false_iff_ne, bne_iff_ne, ne_eq, Decidable.not_not, Int.not_lt, Int.not_le] at h3
        refine tc_skip ?_
        refine tq_block ?_
        refine tq_then ?_
        refine tc_seq ?_
        refine tc_draw [4, 6, 7] ?_
        refine dr_V [(0, Pt b1 0), (1, I n.now), (2, Pt b1 1), (3, Sl a1 n.way.length c1)] ?_
        refine dr_mid [] [(0,0), (1,6), (2,0), (3,6)] [] [4, 6] (List.forall_mem_nil _) (List.forall_mem_cons.2 ⟨?_, (List.forall_mem_cons.2 ⟨?_, List.forall_mem_nil _⟩)⟩)
        ·
          refine act_of 4 [(36, Sl a1 n.way.length c1)] (fun X => ?_)
          refine runL_callR 37 (netOwned_con G a1 c1 n.way hs1 (by first | assumption | (have q_ := netCheck_ok (by assumption); omega))) (fun v G1 L1 hl1 hp => ?_)
          obtain ⟨a5, c5, r1, rfl, hr1, rfl⟩ := hp
          refine act_end (V' := [(0, Pt b1 0), (1, I n.now), (2, Pt b1 1), (3, Sl a1 n.way.length c1), (4, Sl a5 n.way.length c5), (5, .agg #[I n.now, Sl a5 n.way.length c5])]) ?_
          refine dr_mid [2, 3] [(0,0), (1,8), (5,0)] [] [6] (List.forall_mem_nil _) (List.forall_mem_cons.2 ⟨?_, List.forall_mem_nil _⟩)
          refine act_of 6 [] (fun X => ?_)
          refine runL_box 9 #[I 0, Sl none 0 0] 24 (fun b4 => ?_)
          refine act_end (V' := [(0, Pt b1 0), (1, I n.now), (2, Pt b1 1), (3, Sl a1 n.way.length c1), (4, Sl a5 n.way.length c5), (5, .agg #[I n.now, Sl a5 n.way.length c5]), (6, Pt b4 0)]) ?_
          refine dr_mid [2, 3] [(0,0), (1,10), (5,0)] [] [7] (List.forall_mem_nil _) (List.forall_mem_cons.2 ⟨?_, List.forall_mem_nil _⟩)
          refine act_of 7 [(9, Pt b4 0), (38, .agg #[I n.now, Sl a5 n.way.length c5])] (fun X => ?_)
          refine runL_st 0 [[Sg b4 0 [I n.now, Sl a5 n.way.length c5]], r1, [Sg b3 0 [I 0, Sl none 0 0]], [Sg b2 0 [I l.to_, I l.from_, I l.since, I l.due, Sl a2 l.heads.length c2, I l.reply.head.epoch, U l.reply.head.root, U l.reply.head.prev, I l.reply.head.at_, Sr l.reply.proof.name, Sl a3 l.reply.proof.entries.length c3, Sl a4 l.reply.proof.sides.length c4]], [Sg b1 0 [I n.now, Sl a1 n.way.length c1]]] ?_
          refine act_end0 (V' := [(0, Pt b1 0), (1, I n.now), (2, Pt b1 1), (3, Sl a1 n.way.length c1), (4, Sl a5 n.way.length c5), (5, .agg #[I n.now, Sl a5 n.way.length c5]), (6, Pt b4 0)]) ?_
          refine dr_end [0, 1, 2, 3, 5] [] [] [(2, Sl a_fates fates.length c_fates), (3, Pt b1 0), (4, Pt b2 0), (6, Pt b3 0), (9, Pt b4 0)] (List.forall_mem_nil _) ?_
          refine tq_then ?_
          refine tc_seq ?_
          refine tc_rb [0,0,0] [(3, Pt b1 0), (4, Pt b2 0), (6, Pt b3 0), (9, Pt b4 0), (39, Sl a_fates fates.length c_fates), (40, I (((fates.length : Nat) : Int))), (41, I 0)] ?_
          refine tc_block ?_
          have hlm_h_fates : fates.length ≤ 9223372036854775807 := Nat.le_trans (h_fates).le (h_fates).max
          refine tc_loop (σ := Nat × Option Addr × Nat × List Seg × List LetterD × Mem) (fun q_ => (Mem.le G1 q_.2.2.2.2.2) ∧ (q_.1 ≤ fates.length) ∧ (TRow ELetter q_.2.2.2.2.2 q_.2.1 q_.2.2.1 q_.2.2.2.2.1 q_.2.2.2.1) ∧ (q_.2.2.2.2.1 = n.way ++ (fates.take q_.1).map fun k => dueAt l (n.now + k))) (fun q_ => [(3, Pt b1 0), (4, Pt b2 0), (6, Pt b3 0), (9, Pt b4 0), (39, Sl a_fates fates.length c_fates), (40, I (((fates.length : Nat) : Int))), (41, I ((q_.1 : Int)))]) (fun q_ => q_.2.2.2.2.2) (fun q_ => [[Sg b4 0 [I n.now, Sl q_.2.1 q_.2.2.2.2.1.length q_.2.2.1]], q_.2.2.2.1, [Sg b3 0 [I 0, Sl none 0 0]], [Sg b2 0 [I l.to_, I l.from_, I l.since, I l.due, Sl a2 l.heads.length c2, I l.reply.head.epoch, U l.reply.head.root, U l.reply.head.prev, I l.reply.head.at_, Sr l.reply.proof.name, Sl a3 l.reply.proof.entries.length c3, Sl a4 l.reply.proof.sides.length c4]], [Sg b1 0 [I n.now, Sl a1 n.way.length c1]]]) (fun q_ => fates.length - q_.1) ((0, a5, c5, r1, n.way, G1)) ⟨(Mem.le_refl _), (by (try dsimp only); first | exact Nat.zero_le _ | omega | simp), hr1, (by (try dsimp only); simp)⟩ (fun q_ hs => ?_)
          obtain ⟨i, aw, cw, rw, xw, g⟩ := q_
          obtain ⟨hle, hi, hrw, hxw⟩ := hs
          dsimp only at hle hi hrw hxw
          refine tc_eq (fr' := [(3, Pt b1 0), (4, Pt b2 0), (6, Pt b3 0), (9, Pt b4 0), (39, Sl a_fates fates.length c_fates), (40, I (((fates.length : Nat) : Int))), (41, I ((i : Int)))]) (L' := [[Sg b4 0 [I n.now, Sl aw xw.length cw]], rw, [Sg b3 0 [I 0, Sl none 0 0]], [Sg b2 0 [I l.to_, I l.from_, I l.since, I l.due, Sl a2 l.heads.length c2, I l.reply.head.epoch, U l.reply.head.root, U l.reply.head.prev, I l.reply.head.at_, Sr l.reply.proof.name, Sl a3 l.reply.proof.entries.length c3, Sl a4 l.reply.proof.sides.length c4]], [Sg b1 0 [I n.now, Sl a1 n.way.length c1]]]) rfl rfl ?_
          refine tc_rb [0] [(3, Pt b1 0), (4, Pt b2 0), (6, Pt b3 0), (9, Pt b4 0), (39, Sl a_fates fates.length c_fates), (40, I (((fates.length : Nat) : Int))), (41, I ((i : Int))), (42, Bo (decide ((i : Int) < ((fates.length : Nat) : Int))))] ?_
          refine tc_seq ?_
          refine tc_cond (decide ((i : Int) < ((fates.length : Nat) : Int))) (fun h4 => ?_) (fun h4 => ?_)
          ·
            try simp only [decide_eq_true_eq, decide_eq_false_iff_not, Bool.and_eq_true, Bool.or_eq_true, Bool.and_eq_false_imp, Bool.or_eq_false_iff, Bool.not_eq_true', Bool.not_eq_false', Bool.not_eq_true, Bool.not_eq_false, beq_iff_eq, beq_eq_false_iff_ne, bne_iff_ne, ne_eq, Decidable.not_not, Int.not_lt, Int.not_le] at h4
            refine tc_skip ?_
            refine tq_then ?_
            refine tc_seq ?_
            refine tc_block ?_
            refine tc_seq ?_
            refine tc_region ?_
            obtain ⟨b5, o1, rfl⟩ := RS.addr (h_fates.mono (Mem.le_trans hl1 hle)) (k := i) (by first | omega | (have q_ := netCheck_ok (by assumption); omega) | (have q_ := netCheck_ok (by assumption); have q1_ := fate_ok (by assumption) (by assumption); omega))
            obtain ⟨x1, hx1⟩ := getX (l := fates) (k := i) (by first | omega | (have q_ := netCheck_ok (by assumption); omega) | (have q_ := netCheck_ok (by assumption); have q1_ := fate_ok (by assumption) (by assumption); omega))
            obtain ⟨_, ⟨rfl, w11⟩, hc1⟩ := RS.get (h_fates.mono (Mem.le_trans hl1 hle)) hx1
            refine runL_idx (b := b5) (off := o1) (len := fates.length) (cap := c_fates) (ik := .i64) 43 3 1 i (by first | omega | (have q_ := netCheck_ok (by assumption); omega) | (have q_ := netCheck_ok (by assumption); have q1_ := fate_ok (by assumption) (by assumption); omega)) ?_
            refine runL_ldG 44 3 (cs := [I x1]) 0 (I x1) hc1 ?_
            refine runL_b [0] [(3, Pt b1 0), (4, Pt b2 0), (6, Pt b3 0), (9, Pt b4 0), (11, I x1), (39, Sl (At b5 o1) fates.length c_fates), (40, I (((fates.length : Nat) : Int))), (41, I ((i : Int)))] ?_
            refine runL_nil ?_
            refine tq_then ?_
            refine tc_seq ?_
            refine tc_region ?_
            refine runL_b [8] [(3, Pt b1 0), (4, Pt b2 0), (6, Pt b3 0), (9, Pt b4 0), (11, I x1), (39, Sl (At b5 o1) fates.length c_fates), (40, I (((fates.length : Nat) : Int))), (41, I ((i : Int))), (45, .agg #[I l.to_, I l.from_, I l.since, I l.due, Sl a2 l.heads.length c2, I l.reply.head.epoch, U l.reply.head.root, U l.reply.head.prev, I l.reply.head.at_, Sr l.reply.proof.name, Sl a3 l.reply.proof.entries.length c3, Sl a4 l.reply.proof.sides.length c4])] ?_
            refine runL_callR 46 (netOwn1_con g [I l.to_, I l.from_, I l.since, I l.due, Sl a2 l.heads.length c2, I l.reply.head.epoch, U l.reply.head.root, U l.reply.head.prev, I l.reply.head.at_, Sr l.reply.proof.name, Sl a3 l.reply.proof.entries.length c3, Sl a4 l.reply.proof.sides.length c4] l (⟨a2, c2, a3, c3, a4, c4, rfl, (by first | (first | assumption | omega | (have q_ := netCheck_ok (by assumption); have q1_ := fate_ok (by assumption) (by assumption); omega)) | (dsimp only; first | assumption | omega | (have q_ := netCheck_ok (by assumption); have q1_ := fate_ok (by assumption) (by assumption); omega))), (by first | (first | assumption | omega | (have q_ := netCheck_ok (by assumption); have q1_ := fate_ok (by assumption) (by assumption); omega)) | (dsimp only; first | assumption | omega | (have q_ := netCheck_ok (by assumption); have q1_ := fate_ok (by assumption) (by assumption); omega))), (by first | (first | assumption | omega | (have q_ := netCheck_ok (by assumption); have q1_ := fate_ok (by assumption) (by assumption); omega)) | (dsimp only; first | assumption | omega | (have q_ := netCheck_ok (by assumption); have q1_ := fate_ok (by assumption) (by assumption); omega))), (by first | (first | assumption | omega | (have q_ := netCheck_ok (by assumption); have q1_ := fate_ok (by assumption) (by assumption); omega)) | (dsimp only; first | assumption | omega | (have q_ := netCheck_ok (by assumption); have q1_ := fate_ok (by assumption) (by assumption); omega))), (hs2.mono (Mem.le_trans hl1 hle)), (by first | (first | assumption | omega | (have q_ := netCheck_ok (by assumption); have q1_ := fate_ok (by assumption) (by assumption); omega)) | (dsimp only; first | assumption | omega | (have q_ := netCheck_ok (by assumption); have q1_ := fate_ok (by assumption) (by assumption); omega))), (by first | (first | assumption | omega | (have q_ := netCheck_ok (by assumption); have q1_ := fate_ok (by assumption) (by assumption); omega)) | (dsimp only; first | assumption | omega | (have q_ := netCheck_ok (by assumption); have q1_ := fate_ok (by assumption) (by assumption); omega))), (by first | (first | assumption | omega | (have q_ := netCheck_ok (by assumption); have q1_ := fate_ok (by assumption) (by assumption); omega)) | (dsimp only; first | assumption | omega | (have q_ := netCheck_ok (by assumption); have q1_ := fate_ok (by assumption) (by assumption); omega))), (by first | (first | assumption | omega | (have q_ := netCheck_ok (by assumption); have q1_ := fate_ok (by assumption) (by assumption); omega)) | (dsimp only; first | assumption | omega | (have q_ := netCheck_ok (by assumption); have q1_ := fate_ok (by assumption) (by assumption); omega))), (by first | (first | assumption | omega | (have q_ := netCheck_ok (by assumption); have q1_ := fate_ok (by assumption) (by assumption); omega)) | (dsimp only; first | assumption | omega | (have q_ := netCheck_ok (by assumption); have q1_ := fate_ok (by assumption) (by assumption); omega))), (hs3.mono (Mem.le_trans hl1 hle)), (hs4.mono (Mem.le_trans hl1 hle))⟩)) (fun v G2 L1 hl2 hp => ?_)
            obtain ⟨a6, c6, a7, c7, a8, c8, rfl, w12, w13, w14, w15, hs5, w16, w17, w18, w19, w20, hs6, hs7, rfl⟩ := hp
            refine runL_box 12 #[I 0, I 0, I 0, I 0, Sl none 0 0, I 0, U 0, U 0, I 0, Sr ([]), Sl none 0 0, Sl none 0 0] 36 (fun b6 => ?_)
            refine runL_bs [3] [(3, Pt b1 0), (4, Pt b2 0), (6, Pt b3 0), (9, Pt b4 0), (11, I x1), (12, Pt b6 0), (39, Sl (At b5 o1) fates.length c_fates), (40, I (((fates.length : Nat) : Int))), (41, I ((i : Int)))] [[Sg b6 0 [I l.to_, I l.from_, I l.since, I l.due, Sl a6 l.heads.length c6, I l.reply.head.epoch, U l.reply.head.root, U l.reply.head.prev, I l.reply.head.at_, Sr l.reply.proof.name, Sl a7 l.reply.proof.entries.length c7, Sl a8 l.reply.proof.sides.length c8]], [Sg b4 0 [I n.now, Sl aw xw.length cw]], rw, [Sg b3 0 [I 0, Sl none 0 0]], [Sg b2 0 [I l.to_, I l.from_, I l.since, I l.due, Sl a2 l.heads.length c2, I l.reply.head.epoch, U l.reply.head.root, U l.reply.head.prev, I l.reply.head.at_, Sr l.reply.proof.name, Sl a3 l.reply.proof.entries.length c3, Sl a4 l.reply.proof.sides.length c4]], [Sg b1 0 [I n.now, Sl a1 n.way.length c1]]] ?_
            refine runL_nil ?_
            refine tq_then ?_
            refine tc_rbs [0,12,0,0,0,3] [(3, Pt b1 0), (4, Pt b2 0), (6, Pt b3 0), (9, Pt b4 0), (12, Pt b6 0), (39, Sl (At b5 o1) fates.length c_fates), (40, I (((fates.length : Nat) : Int))), (41, I ((i : Int)))] [[Sg b6 0 [I l.to_, I l.from_, I l.since, I (IntKind.i64.wrap (n.now + x1)), Sl a6 l.heads.length c6, I l.reply.head.epoch, U l.reply.head.root, U l.reply.head.prev, I l.reply.head.at_, Sr l.reply.proof.name, Sl a7 l.reply.proof.entries.length c7, Sl a8 l.reply.proof.sides.length c8]], [Sg b4 0 [I n.now, Sl aw xw.length cw]], rw, [Sg b3 0 [I 0, Sl none 0 0]], [Sg b2 0 [I l.to_, I l.from_, I l.since, I l.due, Sl a2 l.heads.length c2, I l.reply.head.epoch, U l.reply.head.root, U l.reply.head.prev, I l.reply.head.at_, Sr l.reply.proof.name, Sl a3 l.reply.proof.entries.length c3, Sl a4 l.reply.proof.sides.length c4]], [Sg b1 0 [I n.now, Sl a1 n.way.length c1]]] ?_
            have e2 : IntKind.i64.wrap (n.now + x1) = n.now + x1 := IntWalk.i64_in _ (by first | omega | (have q_ := netCheck_ok (by assumption); omega) | (have q_ := netCheck_ok (by assumption); have q1_ := fate_ok (by assumption) (by assumption); omega))
            refine tc_eq (fr' := [(3, Pt b1 0), (4, Pt b2 0), (6, Pt b3 0), (9, Pt b4 0), (12, Pt b6 0), (39, Sl (At b5 o1) fates.length c_fates), (40, I (((fates.length : Nat) : Int))), (41, I ((i : Int)))]) (L' := [[Sg b6 0 [I l.to_, I l.from_, I l.since, I (n.now + x1), Sl a6 l.heads.length c6, I l.reply.head.epoch, U l.reply.head.root, U l.reply.head.prev, I l.reply.head.at_, Sr l.reply.proof.name, Sl a7 l.reply.proof.entries.length c7, Sl a8 l.reply.proof.sides.length c8]], [Sg b4 0 [I n.now, Sl aw xw.length cw]], rw, [Sg b3 0 [I 0, Sl none 0 0]], [Sg b2 0 [I l.to_, I l.from_, I l.since, I l.due, Sl a2 l.heads.length c2, I l.reply.head.epoch, U l.reply.head.root, U l.reply.head.prev, I l.reply.head.at_, Sr l.reply.proof.name, Sl a3 l.reply.proof.entries.length c3, Sl a4 l.reply.proof.sides.length c4]], [Sg b1 0 [I n.now, Sl a1 n.way.length c1]]]) (by rfl) (by simp only [e2]) ?_
            clear e2
            refine tc_region ?_
            refine runL_b [0,4,2] [(3, Pt b1 0), (4, Pt b2 0), (6, Pt b3 0), (9, Pt b4 0), (39, Sl (At b5 o1) fates.length c_fates), (40, I (((fates.length : Nat) : Int))), (41, I ((i : Int))), (53, Sl aw xw.length cw), (54, .agg #[I l.to_, I l.from_, I l.since, I (n.now + x1), Sl a6 l.heads.length c6, I l.reply.head.epoch, U l.reply.head.root, U l.reply.head.prev, I l.reply.head.at_, Sr l.reply.proof.name, Sl a7 l.reply.proof.entries.length c7, Sl a8 l.reply.proof.sides.length c8])] ?_
            refine runL_bsl 55 1 #[I l.to_, I l.from_, I l.since, I (n.now + x1), Sl a6 l.heads.length c6, I l.reply.head.epoch, U l.reply.head.root, U l.reply.head.prev, I l.reply.head.at_, Sr l.reply.proof.name, Sl a7 l.reply.proof.entries.length c7, Sl a8 l.reply.proof.sides.length c8] 36 (fun b7 => ?_)
            refine runL_app1' (b := b7) (cs := [I l.to_, I l.from_, I l.since, I (n.now + x1), Sl a6 l.heads.length c6, I l.reply.head.epoch, U l.reply.head.root, U l.reply.head.prev, I l.reply.head.at_, Sr l.reply.proof.name, Sl a7 l.reply.proof.entries.length c7, Sl a8 l.reply.proof.sides.length c8]) 56 36 3 0 (E := ELetter) ((⟨l.to_, l.from_, l.since, n.now + x1, l.heads, l.reply⟩ : LetterD)) (hrw.mono hl2) ⟨a6, c6, a7, c7, a8, c8, rfl, (by first | (first | assumption | omega | (have q_ := netCheck_ok (by assumption); have q1_ := fate_ok (by assumption) (by assumption); omega)) | (dsimp only; first | assumption | omega | (have q_ := netCheck_ok (by assumption); have q1_ := fate_ok (by assumption) (by assumption); omega))), (by first | (first | assumption | omega | (have q_ := netCheck_ok (by assumption); have q1_ := fate_ok (by assumption) (by assumption); omega)) | (dsimp only; first | assumption | omega | (have q_ := netCheck_ok (by assumption); have q1_ := fate_ok (by assumption) (by assumption); omega))), (by first | (first | assumption | omega | (have q_ := netCheck_ok (by assumption); have q1_ := fate_ok (by assumption) (by assumption); omega)) | (dsimp only; first | assumption | omega | (have q_ := netCheck_ok (by assumption); have q1_ := fate_ok (by assumption) (by assumption); omega))), (by first | (first | assumption | omega | (have q_ := netCheck_ok (by assumption); have q1_ := fate_ok (by assumption) (by assumption); omega)) | (dsimp only; first | assumption | omega | (have q_ := netCheck_ok (by assumption); have q1_ := fate_ok (by assumption) (by assumption); omega))), hs5, (by first | (first | assumption | omega | (have q_ := netCheck_ok (by assumption); have q1_ := fate_ok (by assumption) (by assumption); omega)) | (dsimp only; first | assumption | omega | (have q_ := netCheck_ok (by assumption); have q1_ := fate_ok (by assumption) (by assumption); omega))), (by first | (first | assumption | omega | (have q_ := netCheck_ok (by assumption); have q1_ := fate_ok (by assumption) (by assumption); omega)) | (dsimp only; first | assumption | omega | (have q_ := netCheck_ok (by assumption); have q1_ := fate_ok (by assumption) (by assumption); omega))), (by first | (first | assumption | omega | (have q_ := netCheck_ok (by assumption); have q1_ := fate_ok (by assumption) (by assumption); omega)) | (dsimp only; first | assumption | omega | (have q_ := netCheck_ok (by assumption); have q1_ := fate_ok (by assumption) (by assumption); omega))), (by first | (first | assumption | omega | (have q_ := netCheck_ok (by assumption); have q1_ := fate_ok (by assumption) (by assumption); omega)) | (dsimp only; first | assumption | omega | (have q_ := netCheck_ok (by assumption); have q1_ := fate_ok (by assumption) (by assumption); omega))), (by first | (first | assumption | omega | (have q_ := netCheck_ok (by assumption); have q1_ := fate_ok (by assumption) (by assumption); omega)) | (dsimp only; first | assumption | omega | (have q_ := netCheck_ok (by assumption); have q1_ := fate_ok (by assumption) (by assumption); omega))), hs6, hs7⟩ (by have q_ := netCheck_ok (by assumption); have q1_ := congrArg List.length hxw; (try simp only [ELetter, List.length_append, List.length_cons, List.length_nil, List.length_take, List.length_map] at *); omega) (by have q_ := netCheck_ok (by assumption); have q1_ := congrArg List.length hxw; (try simp only [ELetter, List.length_append, List.length_cons, List.length_nil, List.length_take, List.length_map] at *); omega) (fun a9 c9 r2 hr2 => ?_)
            refine runL_bs [0,7] [(3, Pt b1 0), (4, Pt b2 0), (6, Pt b3 0), (9, Pt b4 0), (39, Sl (At b5 o1) fates.length c_fates), (40, I (((fates.length : Nat) : Int))), (41, I ((i : Int)))] [[Sg b7 0 [I l.to_, I l.from_, I l.since, I (n.now + x1), Sl a6 l.heads.length c6, I l.reply.head.epoch, U l.reply.head.root, U l.reply.head.prev, I l.reply.head.at_, Sr l.reply.proof.name, Sl a7 l.reply.proof.entries.length c7, Sl a8 l.reply.proof.sides.length c8]], [Sg b6 0 [I l.to_, I l.from_, I l.since, I (n.now + x1), Sl a6 l.heads.length c6, I l.reply.head.epoch, U l.reply.head.root, U l.reply.head.prev, I l.reply.head.at_, Sr l.reply.proof.name, Sl a7 l.reply.proof.entries.length c7, Sl a8 l.reply.proof.sides.length c8]], [Sg b4 0 [I n.now, Sl a9 ((xw ++ [(⟨l.to_, l.from_, l.since, n.now + x1, l.heads, l.reply⟩ : LetterD)]).length) c9]], r2, [Sg b3 0 [I 0, Sl none 0 0]], [Sg b2 0 [I l.to_, I l.from_, I l.since, I l.due, Sl a2 l.heads.length c2, I l.reply.head.epoch, U l.reply.head.root, U l.reply.head.prev, I l.reply.head.at_, Sr l.reply.proof.name, Sl a3 l.reply.proof.entries.length c3, Sl a4 l.reply.proof.sides.length c4]], [Sg b1 0 [I n.now, Sl a1 n.way.length c1]]] ?_
            refine runL_nil ?_
            refine tq_block ?_
            refine tq_then ?_
            refine tc_region ?_
            refine runL_b [0,0] [(3, Pt b1 0), (4, Pt b2 0), (6, Pt b3 0), (9, Pt b4 0), (39, Sl (At b5 o1) fates.length c_fates), (40, I (((fates.length : Nat) : Int))), (41, I (IntKind.i64.wrap (((i : Int)) + 1)))] ?_
            have e3 : IntKind.i64.wrap (((i : Int)) + 1) = ((i : Int)) + 1 := IntWalk.i64_in _ (by first | omega | (have q_ := netCheck_ok (by assumption); omega) | (have q_ := netCheck_ok (by assumption); have q1_ := fate_ok (by assumption) (by assumption); omega))
            refine runL_eq (fr' := [(3, Pt b1 0), (4, Pt b2 0), (6, Pt b3 0), (9, Pt b4 0), (39, Sl (At b5 o1) fates.length c_fates), (40, I (((fates.length : Nat) : Int))), (41, I (((i : Int)) + 1))]) (L' := [[Sg b7 0 [I l.to_, I l.from_, I l.since, I (n.now + x1), Sl a6 l.heads.length c6, I l.reply.head.epoch, U l.reply.head.root, U l.reply.head.prev, I l.reply.head.at_, Sr l.reply.proof.name, Sl a7 l.reply.proof.entries.length c7, Sl a8 l.reply.proof.sides.length c8]], [Sg b6 0 [I l.to_, I l.from_, I l.since, I (n.now + x1), Sl a6 l.heads.length c6, I l.reply.head.epoch, U l.reply.head.root, U l.reply.head.prev, I l.reply.head.at_, Sr l.reply.proof.name, Sl a7 l.reply.proof.entries.length c7, Sl a8 l.reply.proof.sides.length c8]], [Sg b4 0 [I n.now, Sl a9 ((xw ++ [(⟨l.to_, l.from_, l.since, n.now + x1, l.heads, l.reply⟩ : LetterD)]).length) c9]], r2, [Sg b3 0 [I 0, Sl none 0 0]], [Sg b2 0 [I l.to_, I l.from_, I l.since, I l.due, Sl a2 l.heads.length c2, I l.reply.head.epoch, U l.reply.head.root, U l.reply.head.prev, I l.reply.head.at_, Sr l.reply.proof.name, Sl a3 l.reply.proof.entries.length c3, Sl a4 l.reply.proof.sides.length c4]], [Sg b1 0 [I n.now, Sl a1 n.way.length c1]]]) (by simp only [e3]) (by rfl) ?_
            clear e3
            refine runL_nil ?_
            refine tq_owns [[Sg b4 0 [I n.now, Sl a9 ((xw ++ [(⟨l.to_, l.from_, l.since, n.now + x1, l.heads, l.reply⟩ : LetterD)]).length) c9]], r2, [Sg b3 0 [I 0, Sl none 0 0]], [Sg b2 0 [I l.to_, I l.from_, I l.since, I l.due, Sl a2 l.heads.length c2, I l.reply.head.epoch, U l.reply.head.root, U l.reply.head.prev, I l.reply.head.at_, Sr l.reply.proof.name, Sl a3 l.reply.proof.entries.length c3, Sl a4 l.reply.proof.sides.length c4]], [Sg b1 0 [I n.now, Sl a1 n.way.length c1]]] ((.cons _ (.cons _ (.cons_cons _ (.cons_cons _ (.cons_cons _ (.cons_cons _ (.cons_cons _ .slnil)))))))) ?_
            exact tq_rnd ((i + 1, a9, c9, r2, xw ++ [(⟨l.to_, l.from_, l.since, n.now + x1, l.heads, l.reply⟩ : LetterD)], G2)) ⟨(Mem.le_trans hle hl2), (by omega), hr2, (by rw [hxw, List.append_assoc]; exact congrArg _ (map_snoc (fun k => dueAt l (n.now + k)) hx1))⟩ (by (try dsimp only); omega)
          ·
            try simp only [decide_eq_true_eq, decide_eq_false_iff_not, Bool.and_eq_true, Bool.or_eq_true, Bool.and_eq_false_imp, Bool.or_eq_false_iff, Bool.not_eq_true', Bool.not_eq_false', Bool.not_eq_true, Bool.not_eq_false, beq_iff_eq, beq_eq_false_iff_ne, bne_iff_ne, ne_eq, Decidable.not_not, Int.not_lt, Int.not_le] at h4
            refine tc_exit ?_
            refine tq_then_exit ?_
            refine tq_rnd_exit ?_
            refine tq_block_here ?_
            refine tq_then ?_
            refine tc_rbs [2,7,0] [(6, Pt b3 0), (7, I 0)] [[Sg b4 0 [I n.now, Sl aw xw.length cw]], rw, [Sg b3 0 [I n.now, Sl aw xw.length cw]], [Sg b2 0 [I l.to_, I l.from_, I l.since, I l.due, Sl a2 l.heads.length c2, I l.reply.head.epoch, U l.reply.head.root, U l.reply.head.prev, I l.reply.head.at_, Sr l.reply.proof.name, Sl a3 l.reply.proof.entries.length c3, Sl a4 l.reply.proof.sides.length c4]], [Sg b1 0 [I n.now, Sl a1 n.way.length c1]]] ?_
            refine tc_ret ?_
            refine tq_frzR (E := ELetter) 1 hrw (by have q_ := netCheck_ok (by assumption); have q1_ := congrArg List.length hxw; (try simp only [ELetter, List.length_append, List.length_cons, List.length_nil, List.length_take, List.length_map] at *); omega) (fun G3 hl3 hs8 => ?_)
            have hf4 : netSend n l fates = ((⟨n.now, xw⟩ : NetD), 0) := by
              unfold netSend netZ; first | (simp_all; done) | (rw [if_neg (by omega), if_neg (by simp_all), if_neg (by omega), hxw, List.take_of_length_le (by omega)])
            refine tq_ret [2, 0] [.agg #[I n.now, Sl aw xw.length cw], I 0] (bp_rows [] (.cons _ (.cons _ (.cons _ (.cons _ (.cons _ .slnil))))) (Mem.le_trans (Mem.le_trans hl1 hle) hl3) ?_)
            rw [hf4]
            try dsimp only
            exact ⟨aw, cw, rfl, (by first | (first | assumption | omega | (have q_ := netCheck_ok (by assumption); have q1_ := fate_ok (by assumption) (by assumption); omega)) | (dsimp only; first | assumption | omega | (have q_ := netCheck_ok (by assumption); have q1_ := fate_ok (by assumption) (by assumption); omega))), hs8, rfl⟩
        refine act_of 6 [] (fun X => ?_)
        refine runL_box 9 #[I 0, Sl none 0 0] 24 (fun b8 => ?_)
        refine act_end (V' := [(0, Pt b1 0), (1, I n.now), (2, Pt b1 1), (3, Sl a1 n.way.length c1), (6, Pt b8 0)]) ?_
        refine dr_mid [] [(0,0), (1,8), (2,0), (3,8)] [] [4] (List.forall_mem_nil _) (List.forall_mem_cons.2 ⟨?_, List.forall_mem_nil _⟩)
        refine act_of 4 [(36, Sl a1 n.way.length c1)] (fun X => ?_)
        refine runL_callR 37 (netOwned_con G a1 c1 n.way hs1 (by first | assumption | (have q_ := netCheck_ok (by assumption); omega))) (fun v G4 L1 hl4 hp => ?_)
        obtain ⟨a10, c10, r3, rfl, hr3, rfl⟩ := hp
        refine act_end (V' := [(0, Pt b1 0), (1, I n.now), (2, Pt b1 1), (3, Sl a1 n.way.length c1), (4, Sl a10 n.way.length c10), (5, .agg #[I n.now, Sl a10 n.way.length c10]), (6, Pt b8 0)]) ?_
        refine dr_mid [2, 3] [(0,0), (1,10), (5,0)] [] [7] (List.forall_mem_nil _) (List.forall_mem_cons.2 ⟨?_, List.forall_mem_nil _⟩)
        refine act_of 7 [(9, Pt b8 0), (38, .agg #[I n.now, Sl a10 n.way.length c10])] (fun X => ?_)
        refine runL_st 1 [r3, [Sg b8 0 [I n.now, Sl a10 n.way.length c10]], [Sg b3 0 [I 0, Sl none 0 0]], [Sg b2 0 [I l.to_, I l.from_, I l.since, I l.due, Sl a2 l.heads.length c2, I l.reply.head.epoch, U l.reply.head.root, U l.reply.head.prev, I l.reply.head.at_, Sr l.reply.proof.name, Sl a3 l.reply.proof.entries.length c3, Sl a4 l.reply.proof.sides.length c4]], [Sg b1 0 [I n.now, Sl a1 n.way.length c1]]] ?_
        refine act_end0 (V' := [(0, Pt b1 0), (1, I n.now), (2, Pt b1 1), (3, Sl a1 n.way.length c1), (4, Sl a10 n.way.length c10), (5, .agg #[I n.now, Sl a10 n.way.length c10]), (6, Pt b8 0)]) ?_
        refine dr_end [0, 1, 2, 3, 5] [] [] [(2, Sl a_fates fates.length c_fates), (3, Pt b1 0), (4, Pt b2 0), (6, Pt b3 0), (9, Pt b8 0)] (List.forall_mem_nil _) ?_
        refine tq_then ?_
        refine tc_seq ?_
        refine tc_rb [0,0,0] [(3, Pt b1 0), (4, Pt b2 0), (6, Pt b3 0), (9, Pt b8 0), (39, Sl a_fates fates.length c_fates), (40, I (((fates.length : Nat) : Int))), (41, I 0)] ?_
        refine tc_block ?_
        have hlm_h_fates : fates.length ≤ 9223372036854775807 := Nat.le_trans (h_fates).le (h_fates).max
        refine tc_loop (σ := Nat × Option Addr × Nat × List Seg × List LetterD × Mem) (fun q_ => (Mem.le G4 q_.2.2.2.2.2) ∧ (q_.1 ≤ fates.length) ∧ (TRow ELetter q_.2.2.2.2.2 q_.2.1 q_.2.2.1 q_.2.2.2.2.1 q_.2.2.2.1) ∧ (q_.2.2.2.2.1 = n.way ++ (fates.take q_.1).map fun k => dueAt l (n.now + k))) (fun q_ => [(3, Pt b1 0), (4, Pt b2 0), (6, Pt b3 0), (9, Pt b8 0), (39, Sl a_fates fates.length c_fates), (40, I (((fates.length : Nat) : Int))), (41, I ((q_.1 : Int)))]) (fun q_ => q_.2.2.2.2.2) (fun q_ => [q_.2.2.2.1, [Sg b8 0 [I n.now, Sl q_.2.1 q_.2.2.2.2.1.length q_.2.2.1]], [Sg b3 0 [I 0, Sl none 0 0]], [Sg b2 0 [I l.to_, I l.from_, I l.since, I l.due, Sl a2 l.heads.length c2, I l.reply.head.epoch, U l.reply.head.root, U l.reply.head.prev, I l.reply.head.at_, Sr l.reply.proof.name, Sl a3 l.reply.proof.entries.length c3, Sl a4 l.reply.proof.sides.length c4]], [Sg b1 0 [I n.now, Sl a1 n.way.length c1]]]) (fun q_ => fates.length - q_.1) ((0, a10, c10, r3, n.way, G4)) ⟨(Mem.le_refl _), (by (try dsimp only); first | exact Nat.zero_le _ | omega | simp), hr3, (by (try dsimp only); simp)⟩ (fun q_ hs => ?_)
        obtain ⟨i, aw, cw, rw, xw, g⟩ := q_
        obtain ⟨hle, hi, hrw, hxw⟩ := hs
        dsimp only at hle hi hrw hxw
        refine tc_eq (fr' := [(3, Pt b1 0), (4, Pt b2 0), (6, Pt b3 0), (9, Pt b8 0), (39, Sl a_fates fates.length c_fates), (40, I (((fates.length : Nat) : Int))), (41, I ((i : Int)))]) (L' := [rw, [Sg b8 0 [I n.now, Sl aw xw.length cw]], [Sg b3 0 [I 0, Sl none 0 0]], [Sg b2 0 [I l.to_, I l.from_, I l.since, I l.due, Sl a2 l.heads.length c2, I l.reply.head.epoch, U l.reply.head.root, U l.reply.head.prev, I l.reply.head.at_, Sr l.reply.proof.name, Sl a3 l.reply.proof.entries.length c3, Sl a4 l.reply.proof.sides.length c4]], [Sg b1 0 [I n.now, Sl a1 n.way.length c1]]]) rfl rfl ?_
        refine tc_rb [0] [(3, Pt b1 0), (4, Pt b2 0), (6, Pt b3 0), (9, Pt b8 0), (39, Sl a_fates fates.length c_fates), (40, I (((fates.length : Nat) : Int))), (41, I ((i : Int))), (42, Bo (decide ((i : Int) < ((fates.length : Nat) : Int))))] ?_
        refine tc_seq ?_
        refine tc_cond (decide ((i : Int) < ((fates.length : Nat) : Int))) (fun h5 => ?_) (fun h5 => ?_)
        ·
          try simp only [decide_eq_true_eq, decide_eq_false_iff_not, Bool.and_eq_true, Bool.or_eq_true, Bool.and_eq_false_imp, Bool.or_eq_false_iff, Bool.not_eq_true', Bool.not_eq_false', Bool.not_eq_true, Bool.not_eq_false, beq_iff_eq, beq_eq_false_iff_ne, bne_iff_ne, ne_eq, Decidable.not_not, Int.not_lt, Int.not_le] at h5
          refine tc_skip ?_
          refine tq_then ?_
          refine tc_seq ?_
          refine tc_block ?_
          refine tc_seq ?_
          refine tc_region ?_
          obtain ⟨b9, o2, rfl⟩ := RS.addr (h_fates.mono (Mem.le_trans hl4 hle)) (k := i) (by first | omega | (have q_ := netCheck_ok (by assumption); omega) | (have q_ := netCheck_ok (by assumption); have q1_ := fate_ok (by assumption) (by assumption); omega))
          obtain ⟨x2, hx2⟩ := getX (l := fates) (k := i) (by first | omega | (have q_ := netCheck_ok (by assumption); omega) | (have q_ := netCheck_ok (by assumption); have q1_ := fate_ok (by assumption) (by assumption); omega))
          obtain ⟨_, ⟨rfl, w21⟩, hc2⟩ := RS.get (h_fates.mono (Mem.le_trans hl4 hle)) hx2
          refine runL_idx (b := b9) (off := o2) (len := fates.length) (cap := c_fates) (ik := .i64) 43 3 1 i (by first | omega | (have q_ := netCheck_ok (by assumption); omega) | (have q_ := netCheck_ok (by assumption); have q1_ := fate_ok (by assumption) (by assumption); omega)) ?_
          refine runL_ldG 44 3 (cs := [I x2]) 0 (I x2) hc2 ?_
          refine runL_b [0] [(3, Pt b1 0), (4, Pt b2 0), (6, Pt b3 0), (9, Pt b8 0), (11, I x2), (39, Sl (At b9 o2) fates.length c_fates), (40, I (((fates.length : Nat) : Int))), (41, I ((i : Int)))] ?_
          refine runL_nil ?_
          refine tq_then ?_
          refine tc_seq ?_
          refine tc_region ?_
          refine runL_b [8] [(3, Pt b1 0), (4, Pt b2 0), (6, Pt b3 0), (9, Pt b8 0), (11, I x2), (39, Sl (At b9 o2) fates.length c_fates), (40, I (((fates.length : Nat) : Int))), (41, I ((i : Int))), (45, .agg #[I l.to_, I l.from_, I l.since, I l.due, Sl a2 l.heads.length c2, I l.reply.head.epoch, U l.reply.head.root, U l.reply.head.prev, I l.reply.head.at_, Sr l.reply.proof.name, Sl a3 l.reply.proof.entries.length c3, Sl a4 l.reply.proof.sides.length c4])] ?_
          refine runL_callR 46 (netOwn1_con g [I l.to_, I l.from_, I l.since, I l.due, Sl a2 l.heads.length c2, I l.reply.head.epoch, U l.reply.head.root, U l.reply.head.prev, I l.reply.head.at_, Sr l.reply.proof.name, Sl a3 l.reply.proof.entries.length c3, Sl a4 l.reply.proof.sides.length c4] l (⟨a2, c2, a3, c3, a4, c4, rfl, (by first | (first | assumption | omega | (have q_ := netCheck_ok (by assumption); have q1_ := fate_ok (by assumption) (by assumption); omega)) | (dsimp only; first | assumption | omega | (have q_ := netCheck_ok (by assumption); have q1_ := fate_ok (by assumption) (by assumption); omega))), (by first | (first | assumption | omega | (have q_ := netCheck_ok (by assumption); have q1_ := fate_ok (by assumption) (by assumption); omega)) | (dsimp only; first | assumption | omega | (have q_ := netCheck_ok (by assumption); have q1_ := fate_ok (by assumption) (by assumption); omega))), (by first | (first | assumption | omega | (have q_ := netCheck_ok (by assumption); have q1_ := fate_ok (by assumption) (by assumption); omega)) | (dsimp only; first | assumption | omega | (have q_ := netCheck_ok (by assumption); have q1_ := fate_ok (by assumption) (by assumption); omega))), (by first | (first | assumption | omega | (have q_ := netCheck_ok (by assumption); have q1_ := fate_ok (by assumption) (by assumption); omega)) | (dsimp only; first | assumption | omega | (have q_ := netCheck_ok (by assumption); have q1_ := fate_ok (by assumption) (by assumption); omega))), (hs2.mono (Mem.le_trans hl4 hle)), (by first | (first | assumption | omega | (have q_ := netCheck_ok (by assumption); have q1_ := fate_ok (by assumption) (by assumption); omega)) | (dsimp only; first | assumption | omega | (have q_ := netCheck_ok (by assumption); have q1_ := fate_ok (by assumption) (by assumption); omega))), (by first | (first | assumption | omega | (have q_ := netCheck_ok (by assumption); have q1_ := fate_ok (by assumption) (by assumption); omega)) | (dsimp only; first | assumption | omega | (have q_ := netCheck_ok (by assumption); have q1_ := fate_ok (by assumption) (by assumption); omega))), (by first | (first | assumption | omega | (have q_ := netCheck_ok (by assumption); have q1_ := fate_ok (by assumption) (by assumption); omega)) | (dsimp only; first | assumption | omega | (have q_ := netCheck_ok (by assumption); have q1_ := fate_ok (by assumption) (by assumption); omega))), (by first | (first | assumption | omega | (have q_ := netCheck_ok (by assumption); have q1_ := fate_ok (by assumption) (by assumption); omega)) | (dsimp only; first | assumption | omega | (have q_ := netCheck_ok (by assumption); have q1_ := fate_ok (by assumption) (by assumption); omega))), (by first | (first | assumption | omega | (have q_ := netCheck_ok (by assumption); have q1_ := fate_ok (by assumption) (by assumption); omega)) | (dsimp only; first | assumption | omega | (have q_ := netCheck_ok (by assumption); have q1_ := fate_ok (by assumption) (by assumption); omega))), (hs3.mono (Mem.le_trans hl4 hle)), (hs4.mono (Mem.le_trans hl4 hle))⟩)) (fun v G5 L1 hl5 hp => ?_)
          obtain ⟨a11, c11, a12, c12, a13, c13, rfl, w22, w23, w24, w25, hs9, w26, w27, w28, w29, w30, hs10, hs11, rfl⟩ := hp
          refine runL_box 12 #[I 0, I 0, I 0, I 0, Sl none 0 0, I 0, U 0, U 0, I 0, Sr ([]), Sl none 0 0, Sl none 0 0] 36 (fun b10 => ?_)
          refine runL_bs [3] [(3, Pt b1 0), (4, Pt b2 0), (6, Pt b3 0), (9, Pt b8 0), (11, I x2), (12, Pt b10 0), (39, Sl (At b9 o2) fates.length c_fates), (40, I (((fates.length : Nat) : Int))), (41, I ((i : Int)))] [[Sg b10 0 [I l.to_, I l.from_, I l.since, I l.due, Sl a11 l.heads.length c11, I l.reply.head.epoch, U l.reply.head.root, U l.reply.head.prev, I l.reply.head.at_, Sr l.reply.proof.name, Sl a12 l.reply.proof.entries.length c12, Sl a13 l.reply.proof.sides.length c13]], rw, [Sg b8 0 [I n.now, Sl aw xw.length cw]], [Sg b3 0 [I 0, Sl none 0 0]], [Sg b2 0 [I l.to_, I l.from_, I l.since, I l.due, Sl a2 l.heads.length c2, I l.reply.head.epoch, U l.reply.head.root, U l.reply.head.prev, I l.reply.head.at_, Sr l.reply.proof.name, Sl a3 l.reply.proof.entries.length c3, Sl a4 l.reply.proof.sides.length c4]], [Sg b1 0 [I n.now, Sl a1 n.way.length c1]]] ?_
          refine runL_nil ?_
          refine tq_then ?_
          refine tc_rbs [0,12,0,0,0,3] [(3, Pt b1 0), (4, Pt b2 0), (6, Pt b3 0), (9, Pt b8 0), (12, Pt b10 0), (39, Sl (At b9 o2) fates.length c_fates), (40, I (((fates.length : Nat) : Int))), (41, I ((i : Int)))] [[Sg b10 0 [I l.to_, I l.from_, I l.since, I (IntKind.i64.wrap (n.now + x2)), Sl a11 l.heads.length c11, I l.reply.head.epoch, U l.reply.head.root, U l.reply.head.prev, I l.reply.head.at_, Sr l.reply.proof.name, Sl a12 l.reply.proof.entries.length c12, Sl a13 l.reply.proof.sides.length c13]], rw, [Sg b8 0 [I n.now, Sl aw xw.length cw]], [Sg b3 0 [I 0, Sl none 0 0]], [Sg b2 0 [I l.to_, I l.from_, I l.since, I l.due, Sl a2 l.heads.length c2, I l.reply.head.epoch, U l.reply.head.root, U l.reply.head.prev, I l.reply.head.at_, Sr l.reply.proof.name, Sl a3 l.reply.proof.entries.length c3, Sl a4 l.reply.proof.sides.length c4]], [Sg b1 0 [I n.now, Sl a1 n.way.length c1]]] ?_
          have e4 : IntKind.i64.wrap (n.now + x2) = n.now + x2 := IntWalk.i64_in _ (by first | omega | (have q_ := netCheck_ok (by assumption); omega) | (have q_ := netCheck_ok (by assumption); have q1_ := fate_ok (by assumption) (by assumption); omega))
          refine tc_eq (fr' := [(3, Pt b1 0), (4, Pt b2 0), (6, Pt b3 0), (9, Pt b8 0), (12, Pt b10 0), (39, Sl (At b9 o2) fates.length c_fates), (40, I (((fates.length : Nat) : Int))), (41, I ((i : Int)))]) (L' := [[Sg b10 0 [I l.to_, I l.from_, I l.since, I (n.now + x2), Sl a11 l.heads.length c11, I l.reply.head.epoch, U l.reply.head.root, U l.reply.head.prev, I l.reply.head.at_, Sr l.reply.proof.name, Sl a12 l.reply.proof.entries.length c12, Sl a13 l.reply.proof.sides.length c13]], rw, [Sg b8 0 [I n.now, Sl aw xw.length cw]], [Sg b3 0 [I 0, Sl none 0 0]], [Sg b2 0 [I l.to_, I l.from_, I l.since, I l.due, Sl a2 l.heads.length c2, I l.reply.head.epoch, U l.reply.head.root, U l.reply.head.prev, I l.reply.head.at_, Sr l.reply.proof.name, Sl a3 l.reply.proof.entries.length c3, Sl a4 l.reply.proof.sides.length c4]], [Sg b1 0 [I n.now, Sl a1 n.way.length c1]]]) (by rfl) (by simp only [e4]) ?_
          clear e4
          refine tc_region ?_
          refine runL_b [0,6,2] [(3, Pt b1 0), (4, Pt b2 0), (6, Pt b3 0), (9, Pt b8 0), (39, Sl (At b9 o2) fates.length c_fates), (40, I (((fates.length : Nat) : Int))), (41, I ((i : Int))), (53, Sl aw xw.length cw), (54, .agg #[I l.to_, I l.from_, I l.since, I (n.now + x2), Sl a11 l.heads.length c11, I l.reply.head.epoch, U l.reply.head.root, U l.reply.head.prev, I l.reply.head.at_, Sr l.reply.proof.name, Sl a12 l.reply.proof.entries.length c12, Sl a13 l.reply.proof.sides.length c13])] ?_
          refine runL_bsl 55 1 #[I l.to_, I l.from_, I l.since, I (n.now + x2), Sl a11 l.heads.length c11, I l.reply.head.epoch, U l.reply.head.root, U l.reply.head.prev, I l.reply.head.at_, Sr l.reply.proof.name, Sl a12 l.reply.proof.entries.length c12, Sl a13 l.reply.proof.sides.length c13] 36 (fun b11 => ?_)
          refine runL_app1' (b := b11) (cs := [I l.to_, I l.from_, I l.since, I (n.now + x2), Sl a11 l.heads.length c11, I l.reply.head.epoch, U l.reply.head.root, U l.reply.head.prev, I l.reply.head.at_, Sr l.reply.proof.name, Sl a12 l.reply.proof.entries.length c12, Sl a13 l.reply.proof.sides.length c13]) 56 36 2 0 (E := ELetter) ((⟨l.to_, l.from_, l.since, n.now + x2, l.heads, l.reply⟩ : LetterD)) (hrw.mono hl5) ⟨a11, c11, a12, c12, a13, c13, rfl, (by first | (first | assumption | omega | (have q_ := netCheck_ok (by assumption); have q1_ := fate_ok (by assumption) (by assumption); omega)) | (dsimp only; first | assumption | omega | (have q_ := netCheck_ok (by assumption); have q1_ := fate_ok (by assumption) (by assumption); omega))), (by first | (first | assumption | omega | (have q_ := netCheck_ok (by assumption); have q1_ := fate_ok (by assumption) (by assumption); omega)) | (dsimp only; first | assumption | omega | (have q_ := netCheck_ok (by assumption); have q1_ := fate_ok (by assumption) (by assumption); omega))), (by first | (first | assumption | omega | (have q_ := netCheck_ok (by assumption); have q1_ := fate_ok (by assumption) (by assumption); omega)) | (dsimp only; first | assumption | omega | (have q_ := netCheck_ok (by assumption); have q1_ := fate_ok (by assumption) (by assumption); omega))), (by first | (first | assumption | omega | (have q_ := netCheck_ok (by assumption); have q1_ := fate_ok (by assumption) (by assumption); omega)) | (dsimp only; first | assumption | omega | (have q_ := netCheck_ok (by assumption); have q1_ := fate_ok (by assumption) (by assumption); omega))), hs9, (by first | (first | assumption | omega | (have q_ := netCheck_ok (by assumption); have q1_ := fate_ok (by assumption) (by assumption); omega)) | (dsimp only; first | assumption | omega | (have q_ := netCheck_ok (by assumption); have q1_ := fate_ok (by assumption) (by assumption); omega))), (by first | (first | assumption | omega | (have q_ := netCheck_ok (by assumption); have q1_ := fate_ok (by assumption) (by assumption); omega)) | (dsimp only; first | assumption | omega | (have q_ := netCheck_ok (by assumption); have q1_ := fate_ok (by assumption) (by assumption); omega))), (by first | (first | assumption | omega | (have q_ := netCheck_ok (by assumption); have q1_ := fate_ok (by assumption) (by assumption); omega)) | (dsimp only; first | assumption | omega | (have q_ := netCheck_ok (by assumption); have q1_ := fate_ok (by assumption) (by assumption); omega))), (by first | (first | assumption | omega | (have q_ := netCheck_ok (by assumption); have q1_ := fate_ok (by assumption) (by assumption); omega)) | (dsimp only; first | assumption | omega | (have q_ := netCheck_ok (by assumption); have q1_ := fate_ok (by assumption) (by assumption); omega))), (by first | (first | assumption | omega | (have q_ := netCheck_ok (by assumption); have q1_ := fate_ok (by assumption) (by assumption); omega)) | (dsimp only; first | assumption | omega | (have q_ := netCheck_ok (by assumption); have q1_ := fate_ok (by assumption) (by assumption); omega))), hs10, hs11⟩ (by have q_ := netCheck_ok (by assumption); have q1_ := congrArg List.length hxw; (try simp only [ELetter, List.length_append, List.length_cons, List.length_nil, List.length_take, List.length_map] at *); omega) (by have q_ := netCheck_ok (by assumption); have q1_ := congrArg List.length hxw; (try simp only [ELetter, List.length_append, List.length_cons, List.length_nil, List.length_take, List.length_map] at *); omega) (fun a14 c14 r4 hr4 => ?_)
          refine runL_bs [0,9] [(3, Pt b1 0), (4, Pt b2 0), (6, Pt b3 0), (9, Pt b8 0), (39, Sl (At b9 o2) fates.length c_fates), (40, I (((fates.length : Nat) : Int))), (41, I ((i : Int)))] [[Sg b11 0 [I l.to_, I l.from_, I l.since, I (n.now + x2), Sl a11 l.heads.length c11, I l.reply.head.epoch, U l.reply.head.root, U l.reply.head.prev, I l.reply.head.at_, Sr l.reply.proof.name, Sl a12 l.reply.proof.entries.length c12, Sl a13 l.reply.proof.sides.length c13]], [Sg b10 0 [I l.to_, I l.from_, I l.since, I (n.now + x2), Sl a11 l.heads.length c11, I l.reply.head.epoch, U l.reply.head.root, U l.reply.head.prev, I l.reply.head.at_, Sr l.reply.proof.name, Sl a12 l.reply.proof.entries.length c12, Sl a13 l.reply.proof.sides.length c13]], r4, [Sg b8 0 [I n.now, Sl a14 ((xw ++ [(⟨l.to_, l.from_, l.since, n.now + x2, l.heads, l.reply⟩ : LetterD)]).length) c14]], [Sg b3 0 [I 0, Sl none 0 0]], [Sg b2 0 [I l.to_, I l.from_, I l.since, I l.due, Sl a2 l.heads.length c2, I l.reply.head.epoch, U l.reply.head.root, U l.reply.head.prev, I l.reply.head.at_, Sr l.reply.proof.name, Sl a3 l.reply.proof.entries.length c3, Sl a4 l.reply.proof.sides.length c4]], [Sg b1 0 [I n.now, Sl a1 n.way.length c1]]] ?_
          refine runL_nil ?_
          refine tq_block ?_
          refine tq_then ?_
          refine tc_region ?_
          refine runL_b [0,0] [(3, Pt b1 0), (4, Pt b2 0), (6, Pt b3 0), (9, Pt b8 0), (39, Sl (At b9 o2) fates.length c_fates), (40, I (((fates.length : Nat) : Int))), (41, I (IntKind.i64.wrap (((i : Int)) + 1)))] ?_
          have e5 : IntKind.i64.wrap (((i : Int)) + 1) = ((i : Int)) + 1 := IntWalk.i64_in _ (by first | omega | (have q_ := netCheck_ok (by assumption); omega) | (have q_ := netCheck_ok (by assumption); have q1_ := fate_ok (by assumption) (by assumption); omega))
          refine runL_eq (fr' := [(3, Pt b1 0), (4, Pt b2 0), (6, Pt b3 0), (9, Pt b8 0), (39, Sl (At b9 o2) fates.length c_fates), (40, I (((fates.length : Nat) : Int))), (41, I (((i : Int)) + 1))]) (L' := [[Sg b11 0 [I l.to_, I l.from_, I l.since, I (n.now + x2), Sl a11 l.heads.length c11, I l.reply.head.epoch, U l.reply.head.root, U l.reply.head.prev, I l.reply.head.at_, Sr l.reply.proof.name, Sl a12 l.reply.proof.entries.length c12, Sl a13 l.reply.proof.sides.length c13]], [Sg b10 0 [I l.to_, I l.from_, I l.since, I (n.now + x2), Sl a11 l.heads.length c11, I l.reply.head.epoch, U l.reply.head.root, U l.reply.head.prev, I l.reply.head.at_, Sr l.reply.proof.name, Sl a12 l.reply.proof.entries.length c12, Sl a13 l.reply.proof.sides.length c13]], r4, [Sg b8 0 [I n.now, Sl a14 ((xw ++ [(⟨l.to_, l.from_, l.since, n.now + x2, l.heads, l.reply⟩ : LetterD)]).length) c14]], [Sg b3 0 [I 0, Sl none 0 0]], [Sg b2 0 [I l.to_, I l.from_, I l.since, I l.due, Sl a2 l.heads.length c2, I l.reply.head.epoch, U l.reply.head.root, U l.reply.head.prev, I l.reply.head.at_, Sr l.reply.proof.name, Sl a3 l.reply.proof.entries.length c3, Sl a4 l.reply.proof.sides.length c4]], [Sg b1 0 [I n.now, Sl a1 n.way.length c1]]]) (by simp only [e5]) (by rfl) ?_
          clear e5
          refine runL_nil ?_
          refine tq_owns [r4, [Sg b8 0 [I n.now, Sl a14 ((xw ++ [(⟨l.to_, l.from_, l.since, n.now + x2, l.heads, l.reply⟩ : LetterD)]).length) c14]], [Sg b3 0 [I 0, Sl none 0 0]], [Sg b2 0 [I l.to_, I l.from_, I l.since, I l.due, Sl a2 l.heads.length c2, I l.reply.head.epoch, U l.reply.head.root, U l.reply.head.prev, I l.reply.head.at_, Sr l.reply.proof.name, Sl a3 l.reply.proof.entries.length c3, Sl a4 l.reply.proof.sides.length c4]], [Sg b1 0 [I n.now, Sl a1 n.way.length c1]]] ((.cons _ (.cons _ (.cons_cons _ (.cons_cons _ (.cons_cons _ (.cons_cons _ (.cons_cons _ .slnil)))))))) ?_
          exact tq_rnd ((i + 1, a14, c14, r4, xw ++ [(⟨l.to_, l.from_, l.since, n.now + x2, l.heads, l.reply⟩ : LetterD)], G5)) ⟨(Mem.le_trans hle hl5), (by omega), hr4, (by rw [hxw, List.append_assoc]; exact congrArg _ (map_snoc (fun k => dueAt l (n.now + k)) hx2))⟩ (by (try dsimp only); omega)
        ·
          try simp only [decide_eq_true_eq, decide_eq_false_iff_not, Bool.and_eq_true, Bool.or_eq_true, Bool.and_eq_false_imp, Bool.or_eq_false_iff, Bool.not_eq_true', Bool.not_eq_false', Bool.not_eq_true, Bool.not_eq_false, beq_iff_eq, beq_eq_false_iff_ne, bne_iff_ne, ne_eq, Decidable.not_not, Int.not_lt, Int.not_le] at h5
          refine tc_exit ?_
          refine tq_then_exit ?_
          refine tq_rnd_exit ?_
          refine tq_block_here ?_
          refine tq_then ?_
          refine tc_rbs [4,7,0] [(6, Pt b3 0), (7, I 0)] [rw, [Sg b8 0 [I n.now, Sl aw xw.length cw]], [Sg b3 0 [I n.now, Sl aw xw.length cw]], [Sg b2 0 [I l.to_, I l.from_, I l.since, I l.due, Sl a2 l.heads.length c2, I l.reply.head.epoch, U l.reply.head.root, U l.reply.head.prev, I l.reply.head.at_, Sr l.reply.proof.name, Sl a3 l.reply.proof.entries.length c3, Sl a4 l.reply.proof.sides.length c4]], [Sg b1 0 [I n.now, Sl a1 n.way.length c1]]] ?_
          refine tc_ret ?_
          refine tq_frzR (E := ELetter) 0 hrw (by have q_ := netCheck_ok (by assumption); have q1_ := congrArg List.length hxw; (try simp only [ELetter, List.length_append, List.length_cons, List.length_nil, List.length_take, List.length_map] at *); omega) (fun G6 hl6 hs12 => ?_)
          have hf5 : netSend n l fates = ((⟨n.now, xw⟩ : NetD), 0) := by
            unfold netSend netZ; first | (simp_all; done) | (rw [if_neg (by omega), if_neg (by simp_all), if_neg (by omega), hxw, List.take_of_length_le (by omega)])
          refine tq_ret [2, 0] [.agg #[I n.now, Sl aw xw.length cw], I 0] (bp_rows [] (.cons _ (.cons _ (.cons _ (.cons _ (.cons _ .slnil))))) (Mem.le_trans (Mem.le_trans hl4 hle) hl6) ?_)
          rw [hf5]
          try dsimp only
          exact ⟨aw, cw, rfl, (by first | (first | assumption | omega | (have q_ := netCheck_ok (by assumption); have q1_ := fate_ok (by assumption) (by assumption); omega)) | (dsimp only; first | assumption | omega | (have q_ := netCheck_ok (by assumption); have q1_ := fate_ok (by assumption) (by assumption); omega))), hs12, rfl⟩

theorem nets_con (G : Mem)   : Con Try.prog 4 #[] G [] (fun u G' L' => u = Bo true) := by
  refine con_of Try.func4 18 [] rfl (fun w0 G0 => ?_)
  refine tc_rb [0] [] ?_
  refine tc_seq ?_
  refine tc_region ?_
  refine runL_b [0,0] [(4, .agg #[I 0, Sl none 0 0]), (5, .agg #[I 0, I 0, I 0, I 0, Sl none 0 0, I 0, U 0, U 0, I 0, Sr ([]), Sl none 0 0, Sl none 0 0])] ?_
  refine runL_bsl 6 1 #[I 1] 3 (fun b1 => ?_)
  refine runL_frz1 (b := b1) (o := 0) (cs := [I 1]) 0 (fun G1 hl1 hz1 => ?_)
  have hs1 : RS EI G1 (At b1 0) 1 [1] := RS.lit [[I 1]] [1] ⟨⟨rfl, (by first | assumption | omega | (simp; done) | (simp; omega))⟩, trivial⟩ hz1 (Nat.le_of_ble_eq_true rfl) (Nat.le_of_ble_eq_true rfl)
  refine runL_callR 7 (netSend_con G1 [I 0, Sl none 0 0] ((⟨0, []⟩ : NetD)) (⟨none, 0, rfl, (by first | assumption | omega | (simp; done) | (simp; omega)), (RS.nil' ELetter G1)⟩) [I 0, I 0, I 0, I 0, Sl none 0 0, I 0, U 0, U 0, I 0, Sr ([]), Sl none 0 0, Sl none 0 0] ((⟨0, 0, 0, 0, [], (⟨(⟨0, 0, 0, 0⟩ : HeadD), (⟨[], [], []⟩ : ProofD)⟩ : ReplyD)⟩ : LetterD)) (⟨none, 0, none, 0, none, 0, rfl, (by first | assumption | omega | (simp; done) | (simp; omega)), (by first | assumption | omega | (simp; done) | (simp; omega)), (by first | assumption | omega | (simp; done) | (simp; omega)), (by first | assumption | omega | (simp; done) | (simp; omega)), (RS.nil' EHead G1), (by first | assumption | omega | (simp; done) | (simp; omega)), (by first | assumption | omega | (simp; done) | (simp; omega)), (by first | assumption | omega | (simp; done) | (simp; omega)), (by first | assumption | omega | (simp; done) | (simp; omega)), (Nat.le_of_ble_eq_true rfl), (RS.nil' EEnt G1), (RS.nil' EU G1)⟩) (At b1 0) 1 ([1]) hs1) (fun v G2 L1 hl2 hp => ?_)
  obtain ⟨a1, c1, rfl, w1, hs2, rfl⟩ := hp
  refine runL_b [0,0,0] [(8, .agg #[I (((netSend ((⟨0, []⟩ : NetD)) ((⟨0, 0, 0, 0, [], (⟨(⟨0, 0, 0, 0⟩ : HeadD), (⟨[], [], []⟩ : ProofD)⟩ : ReplyD)⟩ : LetterD)) ([1])).1).now), Sl a1 ((((netSend ((⟨0, []⟩ : NetD)) ((⟨0, 0, 0, 0, [], (⟨(⟨0, 0, 0, 0⟩ : HeadD), (⟨[], [], []⟩ : ProofD)⟩ : ReplyD)⟩ : LetterD)) ([1])).1).way).length) c1]), (9, I ((netSend ((⟨0, []⟩ : NetD)) ((⟨0, 0, 0, 0, [], (⟨(⟨0, 0, 0, 0⟩ : HeadD), (⟨[], [], []⟩ : ProofD)⟩ : ReplyD)⟩ : LetterD)) ([1])).2))] ?_
  refine runL_box 1 #[I 0, Sl none 0 0] 24 (fun b2 => ?_)
  refine runL_bs [3,0] [(1, Pt b2 0), (2, I ((netSend ((⟨0, []⟩ : NetD)) ((⟨0, 0, 0, 0, [], (⟨(⟨0, 0, 0, 0⟩ : HeadD), (⟨[], [], []⟩ : ProofD)⟩ : ReplyD)⟩ : LetterD)) ([1])).2))] [[Sg b2 0 [I (((netSend ((⟨0, []⟩ : NetD)) ((⟨0, 0, 0, 0, [], (⟨(⟨0, 0, 0, 0⟩ : HeadD), (⟨[], [], []⟩ : ProofD)⟩ : ReplyD)⟩ : LetterD)) ([1])).1).now), Sl a1 ((((netSend ((⟨0, []⟩ : NetD)) ((⟨0, 0, 0, 0, [], (⟨(⟨0, 0, 0, 0⟩ : HeadD), (⟨[], [], []⟩ : ProofD)⟩ : ReplyD)⟩ : LetterD)) ([1])).1).way).length) c1]], []] ?_
  refine runL_nil ?_
  refine tq_then ?_
  refine tc_seq ?_
  refine tc_region ?_
  refine runL_b [0,0,0] [(1, Pt b2 0), (12, Bo (decide ((netSend ((⟨0, []⟩ : NetD)) ((⟨0, 0, 0, 0, [], (⟨(⟨0, 0, 0, 0⟩ : HeadD), (⟨[], [], []⟩ : ProofD)⟩ : ReplyD)⟩ : LetterD)) ([1])).2 = 0)))] ?_
  refine runL_b2 (decide ((netSend ((⟨0, []⟩ : NetD)) ((⟨0, 0, 0, 0, [], (⟨(⟨0, 0, 0, 0⟩ : HeadD), (⟨[], [], []⟩ : ProofD)⟩ : ReplyD)⟩ : LetterD)) ([1])).2 = 0)) (fun bb => [(1, Pt b2 0), (12, Bo bb)]) [0,2,0,0,0] [1,1,1,1,0] (fun bb => [(17, Bo (bb && (decide ((((((netSend ((⟨0, []⟩ : NetD)) ((⟨0, 0, 0, 0, [], (⟨(⟨0, 0, 0, 0⟩ : HeadD), (⟨[], [], []⟩ : ProofD)⟩ : ReplyD)⟩ : LetterD)) ([1])).1).way).length : Nat) : Int) = 1))))]) ?_
  refine runL_b [0] [(0, Bo ((decide ((netSend ((⟨0, []⟩ : NetD)) ((⟨0, 0, 0, 0, [], (⟨(⟨0, 0, 0, 0⟩ : HeadD), (⟨[], [], []⟩ : ProofD)⟩ : ReplyD)⟩ : LetterD)) ([1])).2 = 0)) && (decide ((((((netSend ((⟨0, []⟩ : NetD)) ((⟨0, 0, 0, 0, [], (⟨(⟨0, 0, 0, 0⟩ : HeadD), (⟨[], [], []⟩ : ProofD)⟩ : ReplyD)⟩ : LetterD)) ([1])).1).way).length : Nat) : Int) = 1))))] ?_
  refine runL_nil ?_
  refine tq_then ?_
  refine tc_ret ?_
  refine tq_ret [0] [Bo ((decide ((netSend ((⟨0, []⟩ : NetD)) ((⟨0, 0, 0, 0, [], (⟨(⟨0, 0, 0, 0⟩ : HeadD), (⟨[], [], []⟩ : ProofD)⟩ : ReplyD)⟩ : LetterD)) ([1])).2 = 0)) && (decide ((((((netSend ((⟨0, []⟩ : NetD)) ((⟨0, 0, 0, 0, [], (⟨(⟨0, 0, 0, 0⟩ : HeadD), (⟨[], [], []⟩ : ProofD)⟩ : ReplyD)⟩ : LetterD)) ([1])).1).way).length : Nat) : Int) = 1)))] (bp_ret (Mem.le_trans hl1 hl2) ?_)
  have hf_ : ((decide ((netSend ((⟨0, []⟩ : NetD)) ((⟨0, 0, 0, 0, [], (⟨(⟨0, 0, 0, 0⟩ : HeadD), (⟨[], [], []⟩ : ProofD)⟩ : ReplyD)⟩ : LetterD)) ([1])).2 = 0)) && (decide ((((((netSend ((⟨0, []⟩ : NetD)) ((⟨0, 0, 0, 0, [], (⟨(⟨0, 0, 0, 0⟩ : HeadD), (⟨[], [], []⟩ : ProofD)⟩ : ReplyD)⟩ : LetterD)) ([1])).1).way).length : Nat) : Int) = 1))) = true := by
    first | decide +kernel | (revert h1; decide +kernel)
  exact congrArg Bo hf_
end Go.Proofs.Ytjpdpeaolkclfaa
