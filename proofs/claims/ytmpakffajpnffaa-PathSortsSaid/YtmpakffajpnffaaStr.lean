import Derived.Test.YtmpakffajpnffaaTy
namespace Go.Proofs.Ytmpakffajpnffaa
open Go.Tx
set_option linter.unusedVariables false
set_option linter.unusedSimpArgs false

theorem bld_cases {A : Value} {b : Nat} (h : A = .pointer none ∨ A = Pt b 0) : A = .pointer none ∨ A = Pt b 0 := h
def byteI (y : Int) : UInt8 := UInt8.ofNat y.toNat
theorem u8w (x : Int) : 0 ≤ IntKind.u8.wrap x ∧ IntKind.u8.wrap x < 256 := by rw [wrap_u8]; omega
theorem byteI_eq {y : Int} (h : 0 ≤ y ∧ y < 256) : y = ((byteI y).toNat : Int) := by
  unfold byteI; rw [UInt8.toNat_ofNat']; omega
theorem idxR_step {p : Int → Bool} {s : List UInt8} {pos : Nat} (hp : pos < s.length) (h : p ((Utf8.decode (B s) pos).1 : Int) = false) :
    idxR p s (s.length - (pos + (Utf8.decode (B s) pos).2)) (pos + (Utf8.decode (B s) pos).2) = idxR p s (s.length - pos) pos := by
  have hw := dec_w s pos
  rw [idxR_ge _ (s.length - pos - 1) _ (by omega) (by omega)]
  obtain ⟨n, hn⟩ : ∃ n, s.length - pos = n + 1 := ⟨s.length - pos - 1, by omega⟩
  rw [hn]
  show _ = (if pos < s.length then (if p _ then (pos : Int) else idxR p s n (pos + (Utf8.decode (B s) pos).2)) else -1)
  rw [if_pos hp, if_neg (by rw [h]; simp)]
  rfl
theorem idxR_found {p : Int → Bool} {s : List UInt8} {pos : Nat} (hp : pos < s.length) (h : p ((Utf8.decode (B s) pos).1 : Int) = true) : idxR p s (s.length - pos) pos = (pos : Int) := by
  obtain ⟨n, hn⟩ : ∃ n, s.length - pos = n + 1 := ⟨s.length - pos - 1, by omega⟩
  rw [hn]; unfold idxR; rw [if_pos hp, if_pos h]
theorem idxR_end {p : Int → Bool} {s : List UInt8} {n pos : Nat} (hp : ¬ pos < s.length) : idxR p s n pos = -1 := by
  cases n with
  | zero => rfl
  | succ n => unfold idxR; rw [if_neg hp]
def idxFrom (s : List UInt8) (p : Int → Bool) (t : Bool) : Int := idxR (fun r => p r == t) s s.length 0
def idxFrom1 (s : List UInt8) (p : Int → Bool) : Int := idxFrom s p true
def strHas (s : List UInt8) (p : Int → Bool) : Bool := decide (idxFrom1 s p ≥ 0)
theorem strHas_any {s : List UInt8} {p : Int → Bool} (hp : ∀ r : Int, 128 ≤ r → p r = true) : strHas s p = s.any fun b => p (b.toNat : Int) := by
  unfold strHas idxFrom1 idxFrom
  have := idxR_any (p := fun r => p r == true) (fun r h => by simp [hp r h]) (l := s) s.length 0 (by omega)
  simpa using this
def alnum (r : Int) : Bool := decide (97 ≤ r ∧ r ≤ 122) || decide (48 ≤ r ∧ r ≤ 57)
def noAlnum (r : Int) : Bool := !alnum r
def pathName (s : List UInt8) : Bool := decide (1 ≤ s.length) && decide (s.length ≤ 12) && !strHas s noAlnum
theorem pathName_iff {s : List UInt8} : pathName s = true ↔ 1 ≤ s.length ∧ s.length ≤ 12 ∧ ∀ b ∈ s, alnum (b.toNat : Int) = true := by
  unfold pathName
  rw [strHas_any (fun r h => by unfold noAlnum alnum; simp; omega)]
  simp [noAlnum, and_assoc]
theorem or8 (a b : UInt8) : IntKind.i64.wrap ((BitVec.ofInt 64 (((a.toNat : Int)) * 2 ^ 8) ||| BitVec.ofInt 64 ((b.toNat : Int))).toNat : Int) = ((a.toNat * 256 + b.toNat : Nat) : Int) := by
  have ha := a.toNat_lt
  have hb := b.toNat_lt
  have e1 : ((a.toNat : Int)) * 2 ^ 8 = ((a.toNat * 256 : Nat) : Int) := by omega
  rw [e1, BitVec.toNat_or, BitVec.ofInt_natCast, BitVec.ofInt_natCast, BitVec.toNat_ofNat, BitVec.toNat_ofNat, Nat.mod_eq_of_lt (by omega), Nat.mod_eq_of_lt (by omega)]
  have e2 : a.toNat * 256 ||| b.toNat = a.toNat * 256 + b.toNat := by
    have := Nat.shiftLeft_add_eq_or_of_lt (i := 8) (b := b.toNat) (by omega) a.toNat
    rw [Nat.shiftLeft_eq] at this
    exact this.symm
  rw [e2, wrap_i64 (by omega) (by omega)]
def wFirst0 (s : List UInt8) : List UInt8 × List UInt8 × Bool := match s with
  | a :: b :: r => if a.toNat * 256 + b.toNat ≤ r.length then (r.take (a.toNat * 256 + b.toNat), r.drop (a.toNat * 256 + b.toNat), true) else ([], [], false)
  | _ => ([], [], false)
theorem wFirst0_a {s : List UInt8} (h : s.length < 2) : wFirst0 s = ([], [], false) := by
  match s, h with
  | [], _ => rfl
  | [_], _ => rfl
theorem two_of {s : List UInt8} {a b : UInt8} (h1 : s[0]? = some a) (h2 : s[1]? = some b) : s = a :: b :: s.drop 2 := by
  match s, h1, h2 with
  | x :: y :: r, h1, h2 => simp at h1 h2; subst h1 h2; rfl
theorem wFirst0_b {s : List UInt8} {a b : UInt8} (h1 : s[0]? = some a) (h2 : s[1]? = some b) (h : (s.drop 2).length < a.toNat * 256 + b.toNat) : wFirst0 s = ([], [], false) := by
  rw [two_of h1 h2]; unfold wFirst0; simp only; rw [if_neg (by omega)]
theorem wFirst0_c {s : List UInt8} {a b : UInt8} (h1 : s[0]? = some a) (h2 : s[1]? = some b) (h : a.toNat * 256 + b.toNat ≤ (s.drop 2).length) : wFirst0 s = ((s.drop 2).take (a.toNat * 256 + b.toNat), (s.drop 2).drop (a.toNat * 256 + b.toNat), true) := by
  rw [two_of h1 h2]; unfold wFirst0; simp only; rw [if_pos (by omega)]; rfl
def putC (p : List UInt8) : List UInt8 := byteI (IntKind.u8.wrap ((p.length : Int).fdiv (2 ^ 8))) :: byteI (IntKind.u8.wrap (p.length : Int)) :: p
def putT (l : List (List UInt8)) : List UInt8 := (l.map putC).flatten
def wFirst (s : List UInt8) : List UInt8 × List UInt8 × Int := if 600 < s.length then ([], [], 2) else if (wFirst0 s).2.2 then ((wFirst0 s).1, (wFirst0 s).2.1, 0) else ([], [], 3)
def getN : Nat → List UInt8 → List (List UInt8) → List (List UInt8) × Int
  | 0, _, _ => ([], 3)
  | n + 1, s, out => if s = [] then (out, 0) else if (wFirst0 s).2.2 = false ∨ out.length = 60 then ([], 3) else getN n (wFirst0 s).2.1 (out ++ [(wFirst0 s).1])
def wGet (s : List UInt8) : List (List UInt8) × Int := if 600 < s.length then ([], 2) else getN (s.length + 1) s []
theorem getN_len : ∀ (n : Nat) (q : List UInt8) (o : List (List UInt8)), o.length ≤ 60 → (getN n q o).1.length ≤ 60
  | 0, _, _, _ => by simp [getN]
  | n + 1, q, o, h => by
    unfold getN
    split
    · exact h
    · split
      · simp
      · rename_i h1
        exact getN_len n _ _ (by
          have : ¬ o.length = 60 := fun hh => h1 (.inr hh)
          simp; omega)
theorem wGet_len (s : List UInt8) : (wGet s).1.length ≤ 60 := by
  unfold wGet
  split
  · simp
  · exact getN_len _ _ _ (by simp)
/-- may the parts be put down? -/
theorem wFirst0_len (q : List UInt8) : (wFirst0 q).1.length ≤ q.length ∧ (wFirst0 q).2.1.length ≤ q.length := by
  unfold wFirst0; split
  · split <;> simp <;> omega
  · simp
theorem wFirst0_lt {q : List UInt8} (h : ¬ q = []) (h2 : (wFirst0 q).2.2 = true) : (wFirst0 q).2.1.length < q.length := by
  revert h2; unfold wFirst0; split
  · split <;> simp <;> omega
  · simp
theorem getN_mono : ∀ (n m : Nat) (q : List UInt8) (o : List (List UInt8)), q.length < n → q.length < m → getN n q o = getN m q o
  | 0, _, q, _, h, _ => by omega
  | _, 0, q, _, _, h => by omega
  | n + 1, m + 1, q, o, h, h' => by
    unfold getN
    split
    · rfl
    · split
      · rfl
      · rename_i h1 h2
        have : (wFirst0 q).2.2 = true := by
          cases hh : (wFirst0 q).2.2 with
          | true => rfl
          | false => exact absurd (.inl hh) h2
        have := wFirst0_lt h1 this
        exact getN_mono n m _ _ (by omega) (by omega)
theorem getN_step {q : List UInt8} {o : List (List UInt8)} (h : ¬ q = []) (h1 : (wFirst0 q).2.2 = true) (h2 : ¬ o.length = 60) : getN ((wFirst0 q).2.1.length + 1) (wFirst0 q).2.1 (o ++ [(wFirst0 q).1]) = getN (q.length + 1) q o := by
  have := wFirst0_lt h h1
  rw [getN_mono _ q.length _ _ (by omega) this]
  conv => rhs; unfold getN
  rw [if_neg h, if_neg (by simp [h1, h2])]
theorem getN_end {q : List UInt8} {o : List (List UInt8)} {n : Nat} (h : q = []) : getN (n + 1) q o = (o, 0) := by unfold getN; rw [if_pos h]
theorem getN_bad {q : List UInt8} {o : List (List UInt8)} {n : Nat} (h : ¬ q = []) (h1 : (wFirst0 q).2.2 = false ∨ o.length = 60) : getN (n + 1) q o = ([], 3) := by unfold getN; rw [if_neg h, if_pos h1]
def putOk : Nat → List (List UInt8) → Bool
  | _, [] => true
  | n, p :: l => decide (n + 2 + p.length ≤ 600) && putOk (n + 2 + p.length) l
theorem putT_take {l : List (List UInt8)} {i : Nat} {x : List UInt8} (h : l[i]? = some x) : ((putT (l.take i) ++ [byteI (IntKind.u8.wrap ((x.length : Int).fdiv (2 ^ 8)))]) ++ [byteI (IntKind.u8.wrap (x.length : Int))]) ++ x = putT (l.take (i + 1)) := by
  rw [List.take_add_one, h]; simp [putT, putC]
theorem putOk_step {l : List (List UInt8)} {i n : Nat} {x : List UInt8} (h : l[i]? = some x) (hn : n + 2 + x.length ≤ 600) : putOk n (l.drop i) = putOk (((n + 1) + 1) + x.length) (l.drop (i + 1)) := by
  obtain ⟨hi, rfl⟩ := List.getElem?_eq_some_iff.1 h
  rw [List.drop_eq_getElem_cons hi]
  show (decide _ && _) = _
  rw [decide_eq_true hn]; rfl
theorem putOk_no {l : List (List UInt8)} {i n : Nat} {x : List UInt8} (h : l[i]? = some x) (hn : 600 < n + 2 + x.length) : putOk n (l.drop i) = false := by
  obtain ⟨hi, rfl⟩ := List.getElem?_eq_some_iff.1 h
  rw [List.drop_eq_getElem_cons hi]
  show (decide _ && _) = _
  rw [decide_eq_false (by omega)]; rfl
def wPut (l : List (List UInt8)) : List UInt8 × Int := if 60 < l.length then ([], 2) else if putOk 0 l then (putT l, 0) else ([], 2)


theorem idxFrom_con (G : Mem) (s : List UInt8) (k_f : FuncId) (caps_f : Array Value) (p_f : Int → Bool) (hk_f : isFn Try.prog k_f) (h_f : ∀ (x0 : Int), Con Try.prog k_f (#[.int .i32 x0] ++ caps_f) G [] (fun u _ _ => u = Bo (p_f x0))) (t : Bool)  : Con Try.prog 78 #[Sr s, .func (.func k_f) #[] caps_f, Bo t] G [] (fun u G' L' => u = I (idxFrom s p_f t)) := by
  refine con_of Try.func78 21 [(0, Sr s), (1, .func (.func k_f) #[] caps_f), (2, Bo t)] rfl (fun w0 G0 => ?_)
  refine tc_rb [0] [(0, Sr s), (1, .func (.func k_f) #[] caps_f), (2, Bo t)] ?_
  refine tc_seq ?_
  refine tc_seq ?_
  refine tc_region ?_
  refine runL_b [0] [(1, .func (.func k_f) #[] caps_f), (2, Bo t), (9, Sr s)] ?_
  refine runL_range (l := s) 10 (fun b1 => ?_)
  refine runL_nil ?_
  refine tq_then ?_
  refine tc_block ?_
  refine tc_loop (σ := Nat) (fun q_ => (idxR (fun r => p_f r == t) s (s.length - q_) q_ = idxR (fun r => p_f r == t) s s.length 0)) (fun q_ => [(1, .func (.func k_f) #[] caps_f), (2, Bo t), (10, Pt b1 0)]) (fun q_ => G) (fun q_ => [[Ob b1 (.stringIter (B s) q_)]]) (fun q_ => s.length - q_) 0 rfl (fun q_ hs => ?_)
  revert hs; revert q_; intro pos hs
  have hn := hs
  refine tc_eq (fr' := [(1, .func (.func k_f) #[] caps_f), (2, Bo t), (10, Pt b1 0)]) (L' := [[Ob b1 (.stringIter (B s) pos)]]) rfl rfl ?_
  refine tc_seq ?_
  refine tc_region ?_
  refine runL_next (b := b1) (pos := pos) (l := s) 11 0 (fun hp1 => ?_) (fun hp1 => ?_)
  ·
    refine runL_b [0] [(1, .func (.func k_f) #[] caps_f), (2, Bo t), (10, Pt b1 0), (11, .tuple #[Bo true, I ((pos : Int)), .int .i32 (((Utf8.decode (B s) pos).1 : Int))]), (12, Bo true)] ?_
    refine runL_nil ?_
    refine tq_then ?_
    refine tc_seq ?_
    refine tc_cond_true ?_
    refine tc_skip ?_
    refine tq_then ?_
    refine tc_block ?_
    refine tc_rb [0,0,0,0] [(1, .func (.func k_f) #[] caps_f), (2, Bo t), (7, I ((pos : Int))), (8, .int .i32 (((Utf8.decode (B s) pos).1 : Int))), (10, Pt b1 0)] ?_
    refine tc_seq ?_
    refine tc_region ?_
    refine runL_b [0,0] [(1, .func (.func k_f) #[] caps_f), (2, Bo t), (7, I ((pos : Int))), (10, Pt b1 0), (15, .func (.func k_f) #[] caps_f), (16, .int .i32 (((Utf8.decode (B s) pos).1 : Int)))] ?_
    refine runL_callF (k := k_f) (caps := caps_f) (args := #[.int .i32 (((Utf8.decode (B s) pos).1 : Int))]) 17 (Bo (p_f (((Utf8.decode (B s) pos).1 : Int)))) hk_f (h_f (((Utf8.decode (B s) pos).1 : Int))) ?_
    refine runL_b [0,0] [(1, .func (.func k_f) #[] caps_f), (2, Bo t), (7, I ((pos : Int))), (10, Pt b1 0), (19, Bo (((p_f (((Utf8.decode (B s) pos).1 : Int))) == t)))] ?_
    refine runL_nil ?_
    refine tq_then ?_
    refine tc_cond (((p_f (((Utf8.decode (B s) pos).1 : Int))) == t)) (fun h1 => ?_) (fun h1 => ?_)
    ·
      try simp only [decide_eq_true_eq, decide_eq_false_iff_not, Bool.and_eq_true, Bool.or_eq_true, Bool.and_eq_false_imp, Bool.or_eq_false_iff, Bool.not_eq_true', Bool.not_eq_false', Bool.not_eq_true, Bool.not_eq_false, beq_iff_eq, beq_eq_false_iff_ne, bne_iff_ne, ne_eq, Decidable.not_not, Int.not_lt, Int.not_le] at h1
      refine tc_rb [0,0] [(6, I ((pos : Int)))] ?_
      refine tc_ret ?_
      refine tq_block_ret ?_
      refine tq_rnd_ret ?_
      refine tq_block_ret ?_
      refine tq_then_ret ?_
      refine tq_ret [0] [I ((pos : Int))] (bp_ret (Mem.le_refl _) ?_)
      have hf_ : (idxFrom s p_f t) = ((pos : Int)) := by
        unfold idxFrom; rw [← hn]; first | exact idxR_found (p := (fun r => p_f r == t)) hp1 (by simpa using h1) | exact idxR_end hp1
      (try rw [hf_]); first | with_reducible rfl | (simp only [packR]; done) | rfl
    ·
      try simp only [decide_eq_true_eq, decide_eq_false_iff_not, Bool.and_eq_true, Bool.or_eq_true, Bool.and_eq_false_imp, Bool.or_eq_false_iff, Bool.not_eq_true', Bool.not_eq_false', Bool.not_eq_true, Bool.not_eq_false, beq_iff_eq, beq_eq_false_iff_ne, bne_iff_ne, ne_eq, Decidable.not_not, Int.not_lt, Int.not_le] at h1
      refine tc_skip ?_
      refine tq_block ?_
      exact tq_rnd (pos + (Utf8.decode (B s) pos).2) (by rw [← hn]; exact idxR_step (p := (fun r => p_f r == t)) hp1 (by simpa using h1)) (by have := dec_w s pos; (try dsimp only); omega)
  ·
    refine runL_b [0] [(1, .func (.func k_f) #[] caps_f), (2, Bo t), (10, Pt b1 0), (11, .tuple #[Bo false]), (12, Bo false)] ?_
    refine runL_nil ?_
    refine tq_then ?_
    refine tc_seq ?_
    refine tc_cond_false ?_
    refine tc_exit ?_
    refine tq_then_exit ?_
    refine tq_rnd_exit ?_
    refine tq_block_here ?_
    refine tq_then ?_
    refine tc_rb [0] [(6, I ((-1)))] ?_
    refine tc_ret ?_
    refine tq_ret [0] [I ((-1))] (bp_ret (Mem.le_refl _) ?_)
    have hf_ : (idxFrom s p_f t) = ((-1)) := by
      unfold idxFrom; rw [← hn]; first | exact idxR_found (p := (fun r => p_f r == t)) hp1 (by simpa using h1) | exact idxR_end hp1
    (try rw [hf_]); first | with_reducible rfl | (simp only [packR]; done) | rfl

theorem idxFrom1_con (G : Mem) (s : List UInt8) (k_f : FuncId) (caps_f : Array Value) (p_f : Int → Bool) (hk_f : isFn Try.prog k_f) (h_f : ∀ (x0 : Int), Con Try.prog k_f (#[.int .i32 x0] ++ caps_f) G [] (fun u _ _ => u = Bo (p_f x0)))  : Con Try.prog 66 #[Sr s, .func (.func k_f) #[] caps_f] G [] (fun u G' L' => u = I (idxFrom1 s p_f)) := by
  refine con_of Try.func66 8 [(0, Sr s), (1, .func (.func k_f) #[] caps_f)] rfl (fun w0 G0 => ?_)
  refine tc_rb [0] [(0, Sr s), (1, .func (.func k_f) #[] caps_f)] ?_
  refine tc_seq ?_
  refine tc_region ?_
  refine runL_b [0,0] [(5, Sr s), (6, .func (.func k_f) #[] caps_f)] ?_
  refine runL_callV 7 (I (idxFrom s p_f true)) (idxFrom_con G s k_f caps_f p_f hk_f h_f true) ?_
  refine runL_b [0] [(4, I (idxFrom s p_f true))] ?_
  refine runL_nil ?_
  refine tq_then ?_
  refine tc_ret ?_
  refine tq_ret [0] [I (idxFrom s p_f true)] (bp_ret (Mem.le_refl _) ?_)
  have hf_ : (idxFrom1 s p_f) = (idxFrom s p_f true) := by
    rfl
  (try rw [hf_]); first | with_reducible rfl | (simp only [packR]; done) | rfl

theorem strHas_con (G : Mem) (s : List UInt8) (k_f : FuncId) (caps_f : Array Value) (p_f : Int → Bool) (hk_f : isFn Try.prog k_f) (h_f : ∀ (x0 : Int), Con Try.prog k_f (#[.int .i32 x0] ++ caps_f) G [] (fun u _ _ => u = Bo (p_f x0)))  : Con Try.prog 57 #[Sr s, .func (.func k_f) #[] caps_f] G [] (fun u G' L' => u = Bo (strHas s p_f)) := by
  refine con_of Try.func57 9 [(0, Sr s), (1, .func (.func k_f) #[] caps_f)] rfl (fun w0 G0 => ?_)
  refine tc_rb [0] [(0, Sr s), (1, .func (.func k_f) #[] caps_f)] ?_
  refine tc_seq ?_
  refine tc_region ?_
  refine runL_b [0,0] [(5, Sr s), (6, .func (.func k_f) #[] caps_f)] ?_
  refine runL_callV 7 (I (idxFrom1 s p_f)) (idxFrom1_con G s k_f caps_f p_f hk_f h_f) ?_
  refine runL_b [0,0] [(4, Bo (decide (idxFrom1 s p_f ≥ 0)))] ?_
  refine runL_nil ?_
  refine tq_then ?_
  refine tc_ret ?_
  refine tq_ret [0] [Bo (decide (idxFrom1 s p_f ≥ 0))] (bp_ret (Mem.le_refl _) ?_)
  have hf_ : (strHas s p_f) = (decide (idxFrom1 s p_f ≥ 0)) := by
    rfl
  (try rw [hf_]); first | with_reducible rfl | (simp only [packR]; done) | rfl

theorem alnum_con (G : Mem) (r : Int)  : Con Try.prog 56 #[.int .i32 r] G [] (fun u G' L' => u = Bo (alnum r)) := by
  refine con_of Try.func56 17 [(0, .int .i32 r)] rfl (fun w0 G0 => ?_)
  refine tc_rb [0] [(0, .int .i32 r)] ?_
  refine tc_seq ?_
  refine tc_region ?_
  refine runL_b [0,0,0] [(0, .int .i32 r), (5, Bo (decide (r ≥ 97)))] ?_
  refine runL_b2 (decide (r ≥ 97)) (fun bb => [(0, .int .i32 r), (5, Bo bb)]) [0,0,0] [1,1,0] (fun bb => [(0, .int .i32 r), (8, Bo (bb && (decide (r ≤ 122))))]) ?_
  refine runL_b [0] [(0, .int .i32 r), (9, Bo ((decide (r ≥ 97)) && (decide (r ≤ 122))))] ?_
  refine runL_cases (fun bb => [(0, .int .i32 r), (9, Bo bb)]) ((decide (r ≥ 97)) && (decide (r ≤ 122))) (fun h1 => ?_) (fun h1 => ?_)
  ·
    try simp only [decide_eq_true_eq, decide_eq_false_iff_not, Bool.and_eq_true, Bool.or_eq_true, Bool.and_eq_false_imp, Bool.or_eq_false_iff, Bool.not_eq_true', Bool.not_eq_false', Bool.not_eq_true, Bool.not_eq_false, beq_iff_eq, beq_eq_false_iff_ne, bne_iff_ne, ne_eq, Decidable.not_not, Int.not_lt, Int.not_le] at h1
    refine runL_b [1,1,1,1,1,1,0,0] [(2, Bo true)] ?_
    refine runL_nil ?_
    refine tq_then ?_
    refine tc_ret ?_
    refine tq_ret [0] [Bo true] (bp_ret (Mem.le_refl _) ?_)
    have hf_ : (alnum r) = true := by
      rw [Bool.eq_iff_iff]; unfold alnum; simp; omega
    (try rw [hf_]); first | with_reducible rfl | (simp only [packR]; done) | rfl
  ·
    try simp only [decide_eq_true_eq, decide_eq_false_iff_not, Bool.and_eq_true, Bool.or_eq_true, Bool.and_eq_false_imp, Bool.or_eq_false_iff, Bool.not_eq_true', Bool.not_eq_false', Bool.not_eq_true, Bool.not_eq_false, beq_iff_eq, beq_eq_false_iff_ne, bne_iff_ne, ne_eq, Decidable.not_not, Int.not_lt, Int.not_le] at h1
    refine runL_b [0,0,0] [(0, .int .i32 r), (9, Bo false), (12, Bo (decide (r ≥ 48)))] ?_
    refine runL_b2 (decide (r ≥ 48)) (fun bb => [(0, .int .i32 r), (9, Bo false), (12, Bo bb)]) [0,0,0] [1,1,0] (fun bb => [(9, Bo false), (15, Bo (bb && (decide (r ≤ 57))))]) ?_
    refine runL_b [0,0] [(2, Bo ((decide (r ≥ 48)) && (decide (r ≤ 57))))] ?_
    refine runL_nil ?_
    refine tq_then ?_
    refine tc_ret ?_
    refine tq_ret [0] [Bo ((decide (r ≥ 48)) && (decide (r ≤ 57)))] (bp_ret (Mem.le_refl _) ?_)
    have hf_ : (alnum r) = ((decide (r ≥ 48)) && (decide (r ≤ 57))) := by
      rw [Bool.eq_iff_iff]; unfold alnum; simp; omega
    (try rw [hf_]); first | with_reducible rfl | (simp only [packR]; done) | rfl

theorem noAlnum_con (G : Mem) (r : Int) (b_i : Nat) (hz_i : ∀ j v, ([.func (.func 56) #[] #[]] : List Value)[j]? = some v → G b_i (0 + j) = some v)  : Con Try.prog 58 #[.int .i32 r, Pt b_i 0] G [] (fun u G' L' => u = Bo (noAlnum r)) := by
  refine con_of Try.func58 8 [(0, .int .i32 r), (1, Pt b_i 0)] rfl (fun w0 G0 => ?_)
  refine tc_rb [0] [(0, .int .i32 r), (1, Pt b_i 0)] ?_
  refine tc_seq ?_
  refine tc_region ?_
  refine runL_ldG (o' := 0) 4 103 (cs := [.func (.func 56) #[] #[]]) 0 (.func (.func 56) #[] #[]) hz_i ?_
  refine runL_b [0] [(4, .func (.func 56) #[] #[]), (5, .int .i32 r)] ?_
  refine runL_callV 6 (Bo (alnum r)) (alnum_con G r) ?_
  refine runL_b [0,0] [(3, Bo (!(alnum r)))] ?_
  refine runL_nil ?_
  refine tq_then ?_
  refine tc_ret ?_
  refine tq_ret [0] [Bo (!(alnum r))] (bp_ret (Mem.le_refl _) ?_)
  have hf_ : (noAlnum r) = (!(alnum r)) := by
    rfl
  (try rw [hf_]); first | with_reducible rfl | (simp only [packR]; done) | rfl

theorem pathName_con (G : Mem) (s : List UInt8)  : Con Try.prog 36 #[Sr s] G [] (fun u G' L' => u = Bo (pathName s)) := by
  refine con_of Try.func36 18 [(0, Sr s)] rfl (fun w0 G0 => ?_)
  refine tc_rb [0] [(0, Sr s)] ?_
  refine tc_seq ?_
  refine tc_region ?_
  refine runL_box 3 #[.nilFunc] 103 (fun b1 => ?_)
  refine runL_bs [3] [(0, Sr s), (3, Pt b1 0)] [[Sg b1 0 [.func (.func 56) #[] #[]]]] ?_
  refine runL_nil ?_
  refine tq_then ?_
  refine tc_seq ?_
  refine tc_region ?_
  refine runL_b [0,0,0,0] [(0, Sr s), (3, Pt b1 0), (7, Bo (decide (((s).length : Int) ≥ 1)))] ?_
  refine runL_b2 (decide (((s).length : Int) ≥ 1)) (fun bb => [(0, Sr s), (3, Pt b1 0), (7, Bo bb)]) [0,0,0,0] [1,1,1,0] (fun bb => [(0, Sr s), (3, Pt b1 0), (11, Bo (bb && (decide (((s).length : Int) ≤ 12))))]) ?_
  refine runL_b [0] [(0, Sr s), (3, Pt b1 0), (12, Bo ((decide (((s).length : Int) ≥ 1)) && (decide (((s).length : Int) ≤ 12))))] ?_
  refine runL_cases (fun bb => [(0, Sr s), (3, Pt b1 0), (12, Bo bb)]) ((decide (((s).length : Int) ≥ 1)) && (decide (((s).length : Int) ≤ 12))) (fun h1 => ?_) (fun h1 => ?_)
  ·
    try simp only [decide_eq_true_eq, decide_eq_false_iff_not, Bool.and_eq_true, Bool.or_eq_true, Bool.and_eq_false_imp, Bool.or_eq_false_iff, Bool.not_eq_true', Bool.not_eq_false', Bool.not_eq_true, Bool.not_eq_false, beq_iff_eq, beq_eq_false_iff_ne, bne_iff_ne, ne_eq, Decidable.not_not, Int.not_lt, Int.not_le] at h1
    refine runL_b [0,0] [(12, Bo true), (13, Sr s), (14, .func (.func 58) #[] #[Pt b1 0])] ?_
    refine runL_frz1 (b := b1) (o := 0) (cs := [.func (.func 56) #[] #[]]) 0 (fun G1 hl1 hz1 => ?_)
    refine runL_callV 15 (Bo (strHas s ((fun x0 => noAlnum x0)))) (strHas_con G1 s 58 #[Pt b1 0] ((fun x0 => noAlnum x0)) ((fun _ _ => by kernel_rfl)) ((fun x0 => noAlnum_con G1 x0 b1 hz1))) ?_
    refine runL_b [0,0,0] [(2, Bo (!(strHas s ((fun x0 => noAlnum x0)))))] ?_
    refine runL_nil ?_
    refine tq_then ?_
    refine tc_ret ?_
    refine tq_ret [0] [Bo (!(strHas s ((fun x0 => noAlnum x0))))] (bp_ret hl1 ?_)
    have hf_ : (pathName s) = (!(strHas s ((fun x0 => noAlnum x0)))) := by
      unfold pathName; (try simp_all) <;> (intros; omega)
    (try rw [hf_]); first | with_reducible rfl | (simp only [packR]; done) | rfl
  ·
    try simp only [decide_eq_true_eq, decide_eq_false_iff_not, Bool.and_eq_true, Bool.or_eq_true, Bool.and_eq_false_imp, Bool.or_eq_false_iff, Bool.not_eq_true', Bool.not_eq_false', Bool.not_eq_true, Bool.not_eq_false, beq_iff_eq, beq_eq_false_iff_ne, bne_iff_ne, ne_eq, Decidable.not_not, Int.not_lt, Int.not_le] at h1
    refine runL_b [1,1,1,1,0,0] [(2, Bo false)] ?_
    refine runL_nil ?_
    refine tq_then ?_
    refine tc_ret ?_
    refine tq_ret [0] [Bo false] (bp_ret (Mem.le_refl _) ?_)
    have hf_ : (pathName s) = false := by
      unfold pathName; (try simp_all) <;> (intros; omega)
    (try rw [hf_]); first | with_reducible rfl | (simp only [packR]; done) | rfl
end Go.Proofs.Ytmpakffajpnffaa
