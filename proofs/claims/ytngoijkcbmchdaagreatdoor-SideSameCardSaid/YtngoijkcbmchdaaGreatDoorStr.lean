import Derived.Test.YtngoijkcbmchdaaGreatDoorTy
namespace Go.Proofs.YtngoijkcbmchdaaGreatDoor
open Go.Tx
set_option linter.unusedVariables false
set_option linter.unusedSimpArgs false

theorem bld_cases {A : Value} {b : Nat} (h : A = .pointer none ∨ A = Pt b 0) : A = .pointer none ∨ A = Pt b 0 := h
def byteI (y : Int) : UInt8 := UInt8.ofNat y.toNat
theorem u8w (x : Int) : 0 ≤ IntKind.u8.wrap x ∧ IntKind.u8.wrap x < 256 := by rw [wrap_u8]; omega
theorem byteI_eq {y : Int} (h : 0 ≤ y ∧ y < 256) : y = ((byteI y).toNat : Int) := by
  unfold byteI; rw [UInt8.toNat_ofNat']; omega
theorem idxR_step {p : Int → Bool} {s : List UInt8} {pos : Nat} (hp : pos < s.length) (h : p ((Utf8.decode (B s) pos).1 : Int) = false) :
    idxR p s (s.length - (pos + (Utf8.decode (B s) pos).2)) (pos + (Utf8.decode (B s) pos).2) = idxR p s (s.length - pos) pos := by
  have hw := dec_w s pos
  rw [idxR_ge _ (s.length - pos - 1) _ (by omega) (by omega)]
  obtain ⟨n, hn⟩ : ∃ n, s.length - pos = n + 1 := ⟨s.length - pos - 1, by omega⟩
  rw [hn]
  show _ = (if pos < s.length then (if p _ then (pos : Int) else idxR p s n (pos + (Utf8.decode (B s) pos).2)) else -1)
  rw [if_pos hp, if_neg (by rw [h]; simp)]
  rfl
theorem idxR_found {p : Int → Bool} {s : List UInt8} {pos : Nat} (hp : pos < s.length) (h : p ((Utf8.decode (B s) pos).1 : Int) = true) : idxR p s (s.length - pos) pos = (pos : Int) := by
  obtain ⟨n, hn⟩ : ∃ n, s.length - pos = n + 1 := ⟨s.length - pos - 1, by omega⟩
  rw [hn]; unfold idxR; rw [if_pos hp, if_pos h]
theorem idxR_end {p : Int → Bool} {s : List UInt8} {n pos : Nat} (hp : ¬ pos < s.length) : idxR p s n pos = -1 := by
  cases n with
  | zero => rfl
  | succ n => unfold idxR; rw [if_neg hp]
def idxFrom (s : List UInt8) (p : Int → Bool) (t : Bool) : Int := idxR (fun r => p r == t) s s.length 0
def idxFrom1 (s : List UInt8) (p : Int → Bool) : Int := idxFrom s p true
def strHas (s : List UInt8) (p : Int → Bool) : Bool := decide (idxFrom1 s p ≥ 0)
theorem strHas_any {s : List UInt8} {p : Int → Bool} (hp : ∀ r : Int, 128 ≤ r → p r = true) : strHas s p = s.any fun b => p (b.toNat : Int) := by
  unfold strHas idxFrom1 idxFrom
  have := idxR_any (p := fun r => p r == true) (fun r h => by simp [hp r h]) (l := s) s.length 0 (by omega)
  simpa using this
def alnum (r : Int) : Bool := decide (97 ≤ r ∧ r ≤ 122) || decide (48 ≤ r ∧ r ≤ 57)
def noAlnum (r : Int) : Bool := !alnum r
def pathName (s : List UInt8) : Bool := decide (1 ≤ s.length) && decide (s.length ≤ 12) && !strHas s noAlnum
theorem pathName_iff {s : List UInt8} : pathName s = true ↔ 1 ≤ s.length ∧ s.length ≤ 12 ∧ ∀ b ∈ s, alnum (b.toNat : Int) = true := by
  unfold pathName
  rw [strHas_any (fun r h => by unfold noAlnum alnum; simp; omega)]
  simp [noAlnum, and_assoc]
theorem or8 (a b : UInt8) : IntKind.i64.wrap ((BitVec.ofInt 64 (((a.toNat : Int)) * 2 ^ 8) ||| BitVec.ofInt 64 ((b.toNat : Int))).toNat : Int) = ((a.toNat * 256 + b.toNat : Nat) : Int) := by
  have ha := a.toNat_lt
  have hb := b.toNat_lt
  have e1 : ((a.toNat : Int)) * 2 ^ 8 = ((a.toNat * 256 : Nat) : Int) := by omega
  rw [e1, BitVec.toNat_or, BitVec.ofInt_natCast, BitVec.ofInt_natCast, BitVec.toNat_ofNat, BitVec.toNat_ofNat, Nat.mod_eq_of_lt (by omega), Nat.mod_eq_of_lt (by omega)]
  have e2 : a.toNat * 256 ||| b.toNat = a.toNat * 256 + b.toNat := by
    have := Nat.shiftLeft_add_eq_or_of_lt (i := 8) (b := b.toNat) (by omega) a.toNat
    rw [Nat.shiftLeft_eq] at this
    exact this.symm
  rw [e2, wrap_i64 (by omega) (by omega)]
def wFirst0 (s : List UInt8) : List UInt8 × List UInt8 × Bool := match s with
  | a :: b :: r => if a.toNat * 256 + b.toNat ≤ r.length then (r.take (a.toNat * 256 + b.toNat), r.drop (a.toNat * 256 + b.toNat), true) else ([], [], false)
  | _ => ([], [], false)
theorem wFirst0_a {s : List UInt8} (h : s.length < 2) : wFirst0 s = ([], [], false) := by
  match s, h with
  | [], _ => rfl
  | [_], _ => rfl
theorem two_of {s : List UInt8} {a b : UInt8} (h1 : s[0]? = some a) (h2 : s[1]? = some b) : s = a :: b :: s.drop 2 := by
  match s, h1, h2 with
  | x :: y :: r, h1, h2 => simp at h1 h2; subst h1 h2; rfl
theorem wFirst0_b {s : List UInt8} {a b : UInt8} (h1 : s[0]? = some a) (h2 : s[1]? = some b) (h : (s.drop 2).length < a.toNat * 256 + b.toNat) : wFirst0 s = ([], [], false) := by
  rw [two_of h1 h2]; unfold wFirst0; simp only; rw [if_neg (by omega)]
theorem wFirst0_c {s : List UInt8} {a b : UInt8} (h1 : s[0]? = some a) (h2 : s[1]? = some b) (h : a.toNat * 256 + b.toNat ≤ (s.drop 2).length) : wFirst0 s = ((s.drop 2).take (a.toNat * 256 + b.toNat), (s.drop 2).drop (a.toNat * 256 + b.toNat), true) := by
  rw [two_of h1 h2]; unfold wFirst0; simp only; rw [if_pos (by omega)]; rfl
def putC (p : List UInt8) : List UInt8 := byteI (IntKind.u8.wrap ((p.length : Int).fdiv (2 ^ 8))) :: byteI (IntKind.u8.wrap (p.length : Int)) :: p
def putT (l : List (List UInt8)) : List UInt8 := (l.map putC).flatten
def wFirst (s : List UInt8) : List UInt8 × List UInt8 × Int := if 600 < s.length then ([], [], 2) else if (wFirst0 s).2.2 then ((wFirst0 s).1, (wFirst0 s).2.1, 0) else ([], [], 3)
def getN : Nat → List UInt8 → List (List UInt8) → List (List UInt8) × Int
  | 0, _, _ => ([], 3)
  | n + 1, s, out => if s = [] then (out, 0) else if (wFirst0 s).2.2 = false ∨ out.length = 60 then ([], 3) else getN n (wFirst0 s).2.1 (out ++ [(wFirst0 s).1])
def wGet (s : List UInt8) : List (List UInt8) × Int := if 600 < s.length then ([], 2) else getN (s.length + 1) s []
theorem getN_len : ∀ (n : Nat) (q : List UInt8) (o : List (List UInt8)), o.length ≤ 60 → (getN n q o).1.length ≤ 60
  | 0, _, _, _ => by simp [getN]
  | n + 1, q, o, h => by
    unfold getN
    split
    · exact h
    · split
      · simp
      · rename_i h1
        exact getN_len n _ _ (by
          have : ¬ o.length = 60 := fun hh => h1 (.inr hh)
          simp; omega)
theorem wGet_len (s : List UInt8) : (wGet s).1.length ≤ 60 := by
  unfold wGet
  split
  · simp
  · exact getN_len _ _ _ (by simp)
/-- may the parts be put down? -/
theorem wFirst0_len (q : List UInt8) : (wFirst0 q).1.length ≤ q.length ∧ (wFirst0 q).2.1.length ≤ q.length := by
  unfold wFirst0; split
  · split <;> simp <;> omega
  · simp
theorem wFirst0_lt {q : List UInt8} (h : ¬ q = []) (h2 : (wFirst0 q).2.2 = true) : (wFirst0 q).2.1.length < q.length := by
  revert h2; unfold wFirst0; split
  · split <;> simp <;> omega
  · simp
theorem getN_mono : ∀ (n m : Nat) (q : List UInt8) (o : List (List UInt8)), q.length < n → q.length < m → getN n q o = getN m q o
  | 0, _, q, _, h, _ => by omega
  | _, 0, q, _, _, h => by omega
  | n + 1, m + 1, q, o, h, h' => by
    unfold getN
    split
    · rfl
    · split
      · rfl
      · rename_i h1 h2
        have : (wFirst0 q).2.2 = true := by
          cases hh : (wFirst0 q).2.2 with
          | true => rfl
          | false => exact absurd (.inl hh) h2
        have := wFirst0_lt h1 this
        exact getN_mono n m _ _ (by omega) (by omega)
theorem getN_step {q : List UInt8} {o : List (List UInt8)} (h : ¬ q = []) (h1 : (wFirst0 q).2.2 = true) (h2 : ¬ o.length = 60) : getN ((wFirst0 q).2.1.length + 1) (wFirst0 q).2.1 (o ++ [(wFirst0 q).1]) = getN (q.length + 1) q o := by
  have := wFirst0_lt h h1
  rw [getN_mono _ q.length _ _ (by omega) this]
  conv => rhs; unfold getN
  rw [if_neg h, if_neg (by simp [h1, h2])]
theorem getN_end {q : List UInt8} {o : List (List UInt8)} {n : Nat} (h : q = []) : getN (n + 1) q o = (o, 0) := by unfold getN; rw [if_pos h]
theorem getN_bad {q : List UInt8} {o : List (List UInt8)} {n : Nat} (h : ¬ q = []) (h1 : (wFirst0 q).2.2 = false ∨ o.length = 60) : getN (n + 1) q o = ([], 3) := by unfold getN; rw [if_neg h, if_pos h1]
def putOk : Nat → List (List UInt8) → Bool
  | _, [] => true
  | n, p :: l => decide (n + 2 + p.length ≤ 600) && putOk (n + 2 + p.length) l
theorem putT_take {l : List (List UInt8)} {i : Nat} {x : List UInt8} (h : l[i]? = some x) : ((putT (l.take i) ++ [byteI (IntKind.u8.wrap ((x.length : Int).fdiv (2 ^ 8)))]) ++ [byteI (IntKind.u8.wrap (x.length : Int))]) ++ x = putT (l.take (i + 1)) := by
  rw [List.take_add_one, h]; simp [putT, putC]
theorem putOk_step {l : List (List UInt8)} {i n : Nat} {x : List UInt8} (h : l[i]? = some x) (hn : n + 2 + x.length ≤ 600) : putOk n (l.drop i) = putOk (((n + 1) + 1) + x.length) (l.drop (i + 1)) := by
  obtain ⟨hi, rfl⟩ := List.getElem?_eq_some_iff.1 h
  rw [List.drop_eq_getElem_cons hi]
  show (decide _ && _) = _
  rw [decide_eq_true hn]; rfl
theorem putOk_no {l : List (List UInt8)} {i n : Nat} {x : List UInt8} (h : l[i]? = some x) (hn : 600 < n + 2 + x.length) : putOk n (l.drop i) = false := by
  obtain ⟨hi, rfl⟩ := List.getElem?_eq_some_iff.1 h
  rw [List.drop_eq_getElem_cons hi]
  show (decide _ && _) = _
  rw [decide_eq_false (by omega)]; rfl
def wPut (l : List (List UInt8)) : List UInt8 × Int := if 60 < l.length then ([], 2) else if putOk 0 l then (putT l, 0) else ([], 2)


theorem bCopy_con (G : Mem) (b : Nat) (A : Value) (a : Option Addr) (n c : Nat) (hA : A = .pointer none ∨ A = Pt b 0) : ConL Tryz.prog 113 #[Pt b 0] G [[SgT 155 b 0 [A, Sl a n c]]] (fun u G' L' => u = .tuple #[] ∧ L' = [[SgT 155 b 0 [Pt b 0, Sl a n c]]]) := by
  rcases hA with rfl | rfl
  ·
    intro Lr
    refine con_of Tryz.func113 20 [(0, Pt b 0)] rfl (fun w0 G0 => ?_)
    show TC _ _ _ _ _ ([SgT 155 b 0 [.pointer none, Sl a n c]] :: Lr)
    refine tc_rbn [0,0,0,2,0] [(6, Bo true)] ?_
    refine tc_cond_true ?_
    refine tc_region ?_
    refine runL_bn [0,0] [(7, Pt b 0), (8, Pt b 0)] ?_
    refine runL_cvt (cs := [.pointer none, Sl a n c]) 9 0 155 155 true ?_
    refine runL_ext (f := 121) (args := #[Pt b 0]) 10 (Pt b 0) (fun w => by rw [run_callFunc_extern (e := Extern.AbiNoEscape.same) Tryz.func121 (by kernel_rfl) (by kernel_rfl) (by kernel_rfl) (by kernel_rfl)]; rfl) ?_
    refine runL_cvt (cs := [.pointer none, Sl a n c]) 11 0 155 155 false ?_
    refine runL_bsn [0,0,3] [] ([SgT 155 b 0 [Pt b 0, Sl a n c]] :: Lr) ?_
    refine runL_nil ?_
    refine tq_end [] [] (bp_ownA (Lr := Lr) [[SgT 155 b 0 [Pt b 0, Sl a n c]]] (Mem.le_refl _) ?_)
    exact ⟨rfl, rfl⟩
  ·
    intro Lr
    refine con_of Tryz.func113 20 [(0, Pt b 0)] rfl (fun w0 G0 => ?_)
    show TC _ _ _ _ _ ([SgT 155 b 0 [Pt b 0, Sl a n c]] :: Lr)
    refine tc_rbn [0,0,0,2,0] [(6, Bo false)] ?_
    refine tc_cond_false ?_
    refine tc_seq ?_
    refine tc_region ?_
    refine runL_bn [0,0,0,2,0] [(17, Pt b 0), (18, Pt b 0)] ?_
    refine runL_ptreq 19 (b := b) (o' := 0) (eq := false) ?_
    refine runL_nil ?_
    refine tq_then ?_
    refine tc_cond_false ?_
    refine tc_skip ?_
    refine tq_end [] [] (bp_ownA (Lr := Lr) [[SgT 155 b 0 [Pt b 0, Sl a n c]]] (Mem.le_refl _) ?_)
    exact ⟨rfl, rfl⟩

theorem bLen_con (G : Mem) (b : Nat) (A : Value) (a : Option Addr) (c : Nat) (l : List UInt8) (r : List Seg) (hb : BRow 5 a c l r) (hA : A = .pointer none ∨ A = Pt b 0) : ConL Tryz.prog 98 #[Pt b 0] G [[SgT 155 b 0 [A, Sl a l.length c]], r] (fun u G' L' => u = I (l.length : Int) ∧ L' = [[SgT 155 b 0 [A, Sl a l.length c]], r]) := by
  intro Lr
  refine con_of Tryz.func98 8 [(0, Pt b 0)] rfl (fun w0 G0 => ?_)
  show TC _ _ _ _ _ ([SgT 155 b 0 [A, Sl a l.length c]] :: r :: Lr)
  refine tc_rbn [0] [] ?_
  refine tc_rbn [0,0,0,2,0,0] [(2, I (((l.length : Nat) : Int)))] ?_
  refine tc_ret ?_
  refine tq_ret [0] [I (((l.length : Nat) : Int))] (bp_ownA (Lr := Lr) [[SgT 155 b 0 [A, Sl a l.length c]], r] (Mem.le_refl _) ?_)
  exact ⟨rfl, rfl⟩

theorem bWriteByte_con (G : Mem) (b : Nat) (A : Value) (a : Option Addr) (c : Nat) (l : List UInt8) (r : List Seg) (hb : BRow 5 a c l r) (hA : A = .pointer none ∨ A = Pt b 0) (y : Int) (hy : 0 ≤ y ∧ y < 256) (hl : l.length + 1 ≤ 140737488355328) : ConL Tryz.prog 99 #[Pt b 0, Y y] G [[SgT 155 b 0 [A, Sl a l.length c]], r] (fun u G' L' => ∃ a' c' r', u = .nilIface ∧ BRow 5 a' c' (l ++ [byteI y]) r' ∧ L' = [[SgT 155 b 0 [Pt b 0, Sl a' (l ++ [byteI y]).length c']], r']) := by
  intro Lr
  refine con_of Tryz.func99 17 [(0, Pt b 0), (1, Y y)] rfl (fun w0 G0 => ?_)
  show TC _ _ _ _ _ ([SgT 155 b 0 [A, Sl a l.length c]] :: r :: Lr)
  refine tc_rbn [0] [] ?_
  refine tc_seq ?_
  refine tc_region ?_
  refine runL_bn [0] [(5, Pt b 0)] ?_
  refine runL_front 0 ?_
  refine runL_callL (Ls := [[SgT 155 b 0 [A, Sl a l.length c]]]) (Lr := (r :: Lr)) 6 (bCopy_con G b A a l.length c hA) (fun v G1 L1 hl1 hp => ?_)
  obtain ⟨rfl, rfl⟩ := hp
  refine runL_nil ?_
  refine tq_then ?_
  refine tc_seq ?_
  refine tc_region ?_
  refine runL_bn [0,0,0,0,2,0] [(7, Pt b 0), (11, Sl a l.length c), (12, Y y)] ?_
  refine runL_bsl 13 1 #[Y y] 5 (fun b1 => ?_)
  refine runL_appY (b := b1) 14 5 2 0 (byteI y) y (byteI_eq (by first | assumption | omega)) hb (by omega) (fun a1 c1 r1 hb1 => ?_)
  refine runL_bsn [0,0,5] [] ([Sg b1 0 [Y y]] :: [SgT 155 b 0 [Pt b 0, Sl a1 ((l ++ [byteI y]).length) c1]] :: r1 :: Lr) ?_
  refine runL_nil ?_
  refine tq_then ?_
  refine tc_rbn [0] [(4, .nilIface)] ?_
  refine tc_ret ?_
  refine tq_ret [0] [.nilIface] (bp_ownA (Lr := Lr) [[SgT 155 b 0 [Pt b 0, Sl a1 ((l ++ [byteI y]).length) c1]], r1] hl1 ?_)
  exact ⟨a1, c1, r1, rfl, hb1, rfl⟩

theorem bWriteString_con (G : Mem) (b : Nat) (A : Value) (a : Option Addr) (c : Nat) (l : List UInt8) (r : List Seg) (hb : BRow 5 a c l r) (hA : A = .pointer none ∨ A = Pt b 0) (s : List UInt8) (hl : l.length + s.length ≤ 140737488355328) : ConL Tryz.prog 100 #[Pt b 0, Sr s] G [[SgT 155 b 0 [A, Sl a l.length c]], r] (fun u G' L' => ∃ a' c' r', u = .tuple #[I (s.length : Int), .nilIface] ∧ BRow 5 a' c' (l ++ s) r' ∧ L' = [[SgT 155 b 0 [Pt b 0, Sl a' (l ++ s).length c']], r']) := by
  intro Lr
  refine con_of Tryz.func100 19 [(0, Pt b 0), (1, Sr s)] rfl (fun w0 G0 => ?_)
  show TC _ _ _ _ _ ([SgT 155 b 0 [A, Sl a l.length c]] :: r :: Lr)
  refine tc_rbn [0,0] [] ?_
  refine tc_seq ?_
  refine tc_region ?_
  refine runL_bn [0] [(6, Pt b 0)] ?_
  refine runL_front 0 ?_
  refine runL_callL (Ls := [[SgT 155 b 0 [A, Sl a l.length c]]]) (Lr := (r :: Lr)) 7 (bCopy_con G b A a l.length c hA) (fun v G1 L1 hl1 hp => ?_)
  obtain ⟨rfl, rfl⟩ := hp
  refine runL_nil ?_
  refine tq_then ?_
  refine tc_seq ?_
  refine tc_region ?_
  refine runL_bn [0,0,0,0,2,0] [(8, Pt b 0), (12, Sl a l.length c), (13, Sr s)] ?_
  refine runL_appS (s := s) 14 5 1 hb (by omega) (fun a1 c1 r1 hb1 => ?_)
  refine runL_bsn [0,0,3] [] ([SgT 155 b 0 [Pt b 0, Sl a1 ((l ++ s).length) c1]] :: r1 :: Lr) ?_
  refine runL_nil ?_
  refine tq_then ?_
  refine tc_rbn [0,0,0,0] [(4, I (((s).length : Int))), (5, .nilIface)] ?_
  refine tc_ret ?_
  refine tq_ret [0, 0] [I (((s).length : Int)), .nilIface] (bp_ownA (Lr := Lr) [[SgT 155 b 0 [Pt b 0, Sl a1 ((l ++ s).length) c1]], r1] hl1 ?_)
  exact ⟨a1, c1, r1, rfl, hb1, rfl⟩

theorem bString_con (G : Mem) (b : Nat) (A : Value) (a : Option Addr) (c : Nat) (l : List UInt8) (r : List Seg) (hb : BRow 5 a c l r) (hA : A = .pointer none ∨ A = Pt b 0) : ConL Tryz.prog 101 #[Pt b 0] G [[SgT 155 b 0 [A, Sl a l.length c]], r] (fun u G' L' => u = Sr l ∧ L' = [[SgT 155 b 0 [A, Sl a l.length c]], []]) := by
  intro Lr
  refine con_of Tryz.func101 14 [(0, Pt b 0)] rfl (fun w0 G0 => ?_)
  show TC _ _ _ _ _ ([SgT 155 b 0 [A, Sl a l.length c]] :: r :: Lr)
  refine tc_rbn [0] [] ?_
  refine tc_seq ?_
  refine tc_draw [10] ?_
  refine dr_V [(0, Pt b 0), (1, Pt b 0), (2, Pt b 1), (3, Sl a l.length c), (4, dataP a), (5, Pt b 0), (6, Pt b 0), (7, Pt b 1), (8, Sl a l.length c), (9, I (((l.length : Nat) : Int)))] ?_
  refine dr_mid [] [(0,0), (1,0), (2,0), (3,2), (5,0), (6,0), (7,0), (8,2), (9,0)] [4] [10] (fmc ?_ fm0) (fmc ?_ fm0)
  · refine stab_of 4 7 (dataP a) [(6, Sl a l.length c)] (fun X => ?_)
    exact runL_usd 7 hb stab_end
  refine act_of 10 [(7, dataP a), (12, I (((l.length : Nat) : Int)))] (fun X => ?_)
  refine runL_ustr (e := 5) 13 1 hb ?_
  refine act_endN [(10, Sr l), (11, Sr l)] ?_
  refine dr_end [0, 1, 2, 3, 4, 5, 6, 7, 8, 9] [(11,0)] [] [(2, Sr l)] (List.forall_mem_nil _) ?_
  refine tq_then ?_
  refine tc_ret ?_
  refine tq_ret [0] [Sr l] (bp_ownA (Lr := Lr) [[SgT 155 b 0 [A, Sl a l.length c]], []] (Mem.le_refl _) ?_)
  exact ⟨rfl, rfl⟩

theorem idxFrom_con (G : Mem) (s : List UInt8) (k_f : FuncId) (caps_f : Array Value) (p_f : Int → Bool) (hk_f : isFn Tryz.prog k_f) (h_f : ∀ (x0 : Int), Con Tryz.prog k_f (#[.int .i32 x0] ++ caps_f) G [] (fun u _ _ => u = Bo (p_f x0))) (t : Bool)  : ConV 118 #[Sr s, Fv k_f caps_f, Bo t] G (I (idxFrom s p_f t)) := by
  refine con_of Tryz.func118 21 [(0, Sr s), (1, Fv k_f caps_f), (2, Bo t)] rfl (fun w0 G0 => ?_)
  refine tc_rbn [0] [] ?_
  refine tc_seq ?_
  refine tc_seq ?_
  refine tc_region ?_
  refine runL_bn [0] [(9, Sr s)] ?_
  refine runL_range (l := s) 10 (fun b1 => ?_)
  refine runL_nil ?_
  refine tq_then ?_
  refine tc_block ?_
  refine tc_loop (σ := Nat) (fun q_ => (idxR (fun r => p_f r == t) s (s.length - q_) q_ = idxR (fun r => p_f r == t) s s.length 0)) (fun q_ => [(1, Fv k_f caps_f), (2, Bo t), (10, Pt b1 0)]) (fun q_ => G) (fun q_ => [[Ob b1 (.stringIter (B s) q_)]]) (fun q_ => s.length - q_) 0 rfl (fun q_ hs => ?_)
  revert hs; revert q_; intro pos hs
  have hn := hs
  refine tc_eq (fr' := [(1, Fv k_f caps_f), (2, Bo t), (10, Pt b1 0)]) (L' := [[Ob b1 (.stringIter (B s) pos)]]) rfl rfl ?_
  refine tc_seq ?_
  refine tc_region ?_
  refine runL_next (b := b1) (pos := pos) (l := s) 11 0 (fun hp1 => ?_) (fun hp1 => ?_)
  ·
    refine runL_bn [0] [(12, Bo true)] ?_
    refine runL_nil ?_
    refine tq_then ?_
    refine tc_seq ?_
    refine tc_cond_true ?_
    refine tc_skip ?_
    refine tq_then ?_
    refine tc_block ?_
    refine tc_rbn [0,0,0,0] [(7, I ((pos : Int))), (8, .int .i32 (((Utf8.decode (B s) pos).1 : Int)))] ?_
    refine tc_seq ?_
    refine tc_region ?_
    refine runL_bn [0,0] [(15, Fv k_f caps_f), (16, .int .i32 (((Utf8.decode (B s) pos).1 : Int)))] ?_
    refine runL_callF (k := k_f) (caps := caps_f) (args := #[.int .i32 (((Utf8.decode (B s) pos).1 : Int))]) 17 (Bo (p_f (((Utf8.decode (B s) pos).1 : Int)))) hk_f (h_f (((Utf8.decode (B s) pos).1 : Int))) ?_
    refine runL_bn [0,0] [(19, Bo (((p_f (((Utf8.decode (B s) pos).1 : Int))) == t)))] ?_
    refine runL_nil ?_
    refine tq_then ?_
    refine tc_condP (((p_f (((Utf8.decode (B s) pos).1 : Int))) == t)) (fun h1 => ?_) (fun h1 => ?_)
    ·
      refine tc_rbn [0,0] [(6, I ((pos : Int)))] ?_
      refine tc_ret ?_
      refine tq_block_ret ?_
      refine tq_rnd_ret ?_
      refine tq_block_ret ?_
      refine tq_then_ret ?_
      refine tq_ret [0] [I ((pos : Int))] (bp_ret (Mem.le_refl _) (congrArg I (?_ : (idxFrom s p_f t) = ((pos : Int))).symm))
      unfold idxFrom; rw [← hn]; first | exact idxR_found (p := (fun r => p_f r == t)) hp1 (by simpa using h1) | exact idxR_end hp1
    ·
      refine tc_skip ?_
      refine tq_block ?_
      exact tq_rnd (pos + (Utf8.decode (B s) pos).2) (by rw [← hn]; exact idxR_step (p := (fun r => p_f r == t)) hp1 (by simpa using h1)) (by have := dec_w s pos; (try dsimp only); omega)
  ·
    refine runL_bn [0] [(12, Bo false)] ?_
    refine runL_nil ?_
    refine tq_then ?_
    refine tc_seq ?_
    refine tc_cond_false ?_
    refine tc_exit ?_
    refine tq_then_exit ?_
    refine tq_rnd_exit ?_
    refine tq_block_here ?_
    refine tq_then ?_
    refine tc_rbn [0] [(6, I ((-1)))] ?_
    refine tc_ret ?_
    refine tq_ret [0] [I ((-1))] (bp_ret (Mem.le_refl _) (congrArg I (?_ : (idxFrom s p_f t) = ((-1))).symm))
    unfold idxFrom; rw [← hn]; first | exact idxR_found (p := (fun r => p_f r == t)) hp1 (by simpa using h1) | exact idxR_end hp1

theorem idxFrom1_con (G : Mem) (s : List UInt8) (k_f : FuncId) (caps_f : Array Value) (p_f : Int → Bool) (hk_f : isFn Tryz.prog k_f) (h_f : ∀ (x0 : Int), Con Tryz.prog k_f (#[.int .i32 x0] ++ caps_f) G [] (fun u _ _ => u = Bo (p_f x0)))  : ConV 107 #[Sr s, Fv k_f caps_f] G (I (idxFrom1 s p_f)) := by
  refine con_of Tryz.func107 8 [(0, Sr s), (1, Fv k_f caps_f)] rfl (fun w0 G0 => ?_)
  refine tc_rbn [0] [] ?_
  refine tc_seq ?_
  refine tc_region ?_
  refine runL_bn [0,0] [(5, Sr s), (6, Fv k_f caps_f)] ?_
  refine runL_callV 7 (I (idxFrom s p_f true)) (idxFrom_con G s k_f caps_f p_f hk_f h_f true) ?_
  refine runL_bn [0] [(4, I (idxFrom s p_f true))] ?_
  refine runL_nil ?_
  refine tq_then ?_
  refine tc_ret ?_
  refine tq_ret [0] [I (idxFrom s p_f true)] (bp_ret (Mem.le_refl _) (congrArg I (?_ : (idxFrom1 s p_f) = (idxFrom s p_f true)).symm))
  rfl

theorem strHas_con (G : Mem) (s : List UInt8) (k_f : FuncId) (caps_f : Array Value) (p_f : Int → Bool) (hk_f : isFn Tryz.prog k_f) (h_f : ∀ (x0 : Int), Con Tryz.prog k_f (#[.int .i32 x0] ++ caps_f) G [] (fun u _ _ => u = Bo (p_f x0)))  : ConV 90 #[Sr s, Fv k_f caps_f] G (Bo (strHas s p_f)) := by
  refine con_of Tryz.func90 9 [(0, Sr s), (1, Fv k_f caps_f)] rfl (fun w0 G0 => ?_)
  refine tc_rbn [0] [] ?_
  refine tc_seq ?_
  refine tc_region ?_
  refine runL_bn [0,0] [(5, Sr s), (6, Fv k_f caps_f)] ?_
  refine runL_callV 7 (I (idxFrom1 s p_f)) (idxFrom1_con G s k_f caps_f p_f hk_f h_f) ?_
  refine runL_bn [0,0] [(4, Bo (decide (idxFrom1 s p_f ≥ 0)))] ?_
  refine runL_nil ?_
  refine tq_then ?_
  refine tc_ret ?_
  refine tq_ret [0] [Bo (decide (idxFrom1 s p_f ≥ 0))] (bp_ret (Mem.le_refl _) (congrArg Bo (?_ : (strHas s p_f) = (decide (idxFrom1 s p_f ≥ 0))).symm))
  rfl

theorem alnum_con (G : Mem) (r : Int)  : ConV 89 #[.int .i32 r] G (Bo (alnum r)) := by
  refine con_of Tryz.func89 17 [(0, .int .i32 r)] rfl (fun w0 G0 => ?_)
  refine tc_rbn [0] [] ?_
  refine tc_seq ?_
  refine tc_region ?_
  refine runL_bn [0,0,0] [(5, Bo (decide (r ≥ 97)))] ?_
  refine runL_b2n (decide (r ≥ 97)) [5] [0,0,0] [1,1,0] (fun bb => [(8, Bo (bb && (decide (r ≤ 122))))]) ?_
  refine runL_bn [0] [(9, Bo ((decide (r ≥ 97)) && (decide (r ≤ 122))))] ?_
  refine runL_casesT [9] ((decide (r ≥ 97)) && (decide (r ≤ 122))) (fun h1 => ?_) (fun h1 => ?_)
  ·
    refine runL_bn [1,1,1,1,1,1,0,0] [(2, Bo true)] ?_
    refine runL_nil ?_
    refine tq_then ?_
    refine tc_ret ?_
    refine tq_ret [0] [Bo true] (bp_ret (Mem.le_refl _) (congrArg Bo (?_ : (alnum r) = true).symm))
    rw [Bool.eq_iff_iff]; unfold alnum; simp; omega
  ·
    refine runL_bn [0,0,0] [(12, Bo (decide (r ≥ 48)))] ?_
    refine runL_b2n (decide (r ≥ 48)) [12] [0,0,0] [1,1,0] (fun bb => [(15, Bo (bb && (decide (r ≤ 57))))]) ?_
    refine runL_bn [0,0] [(2, Bo ((decide (r ≥ 48)) && (decide (r ≤ 57))))] ?_
    refine runL_nil ?_
    refine tq_then ?_
    refine tc_ret ?_
    refine tq_ret [0] [Bo ((decide (r ≥ 48)) && (decide (r ≤ 57)))] (bp_ret (Mem.le_refl _) (congrArg Bo (?_ : (alnum r) = ((decide (r ≥ 48)) && (decide (r ≤ 57)))).symm))
    rw [Bool.eq_iff_iff]; unfold alnum; simp; omega

theorem noAlnum_con (G : Mem) (r : Int) (b_i : Nat) (hz_i : ∀ j v, ([Fv 89 #[]] : List Value)[j]? = some v → G b_i (0 + j) = some v)  : ConV 91 #[.int .i32 r, Pt b_i 0] G (Bo (noAlnum r)) := by
  refine con_of Tryz.func91 8 [(0, .int .i32 r), (1, Pt b_i 0)] rfl (fun w0 G0 => ?_)
  refine tc_rbn [0] [] ?_
  refine tc_seq ?_
  refine tc_region ?_
  refine runL_ldG (o' := 0) 4 146 (cs := [Fv 89 #[]]) 0 (Fv 89 #[]) hz_i ?_
  refine runL_bn [0] [(5, .int .i32 r)] ?_
  refine runL_callV 6 (Bo (alnum r)) (alnum_con G r) ?_
  refine runL_bn [0,0] [(3, Bo (!(alnum r)))] ?_
  refine runL_nil ?_
  refine tq_then ?_
  refine tc_ret ?_
  refine tq_ret [0] [Bo (!(alnum r))] (bp_ret (Mem.le_refl _) (congrArg Bo (?_ : (noAlnum r) = (!(alnum r))).symm))
  rfl

theorem pathName_con (G : Mem) (s : List UInt8)  : ConV 73 #[Sr s] G (Bo (pathName s)) := by
  refine con_of Tryz.func73 18 [(0, Sr s)] rfl (fun w0 G0 => ?_)
  refine tc_rbn [0] [] ?_
  refine tc_seq ?_
  refine tc_region ?_
  refine runL_box 3 #[.nilFunc] 146 (fun b1 => ?_)
  refine runL_bsn [3] [] [[Sg b1 0 [Fv 89 #[]]]] ?_
  refine runL_nil ?_
  refine tq_then ?_
  refine tc_seq ?_
  refine tc_region ?_
  refine runL_bn [0,0,0,0] [(7, Bo (decide (((s).length : Int) ≥ 1)))] ?_
  refine runL_b2n (decide (((s).length : Int) ≥ 1)) [7] [0,0,0,0] [1,1,1,0] (fun bb => [(11, Bo (bb && (decide (((s).length : Int) ≤ 12))))]) ?_
  refine runL_bn [0] [(12, Bo ((decide (((s).length : Int) ≥ 1)) && (decide (((s).length : Int) ≤ 12))))] ?_
  refine runL_casesT [12] ((decide (((s).length : Int) ≥ 1)) && (decide (((s).length : Int) ≤ 12))) (fun h1 => ?_) (fun h1 => ?_)
  ·
    refine runL_bn [0,0] [(13, Sr s), (14, Fv 91 #[Pt b1 0])] ?_
    refine runL_frz1 (b := b1) (o := 0) (cs := [Fv 89 #[]]) 0 (fun G1 hl1 hz1 => ?_)
    refine runL_callV 15 (Bo (strHas s ((fun x0 => noAlnum x0)))) (strHas_con G1 s 91 #[Pt b1 0] ((fun x0 => noAlnum x0)) ((fun _ => ⟨fun _ => by kernel_rfl, by kernel_rfl⟩)) ((fun x0 => noAlnum_con G1 x0 b1 hz1))) ?_
    refine runL_bn [0,0,0] [(2, Bo (!(strHas s ((fun x0 => noAlnum x0)))))] ?_
    refine runL_nil ?_
    refine tq_then ?_
    refine tc_ret ?_
    refine tq_ret [0] [Bo (!(strHas s ((fun x0 => noAlnum x0))))] (bp_ret hl1 (congrArg Bo (?_ : (pathName s) = (!(strHas s ((fun x0 => noAlnum x0))))).symm))
    unfold pathName; (try simp_all) <;> (intros; omega)
  ·
    refine runL_bn [1,1,1,1,0,0] [(2, Bo false)] ?_
    refine runL_nil ?_
    refine tq_then ?_
    refine tc_ret ?_
    refine tq_ret [0] [Bo false] (bp_ret (Mem.le_refl _) (congrArg Bo (?_ : (pathName s) = false).symm))
    unfold pathName; (try simp_all) <;> (intros; omega)

theorem wPut_con (G : Mem) (a_l : Option Addr) (c_l : Nat) (l : List ((List UInt8))) (h_l : RS ES G a_l c_l l)  : ConV 81 #[Sl a_l l.length c_l] G (.tuple #[Sr ((wPut l).1), I ((wPut l).2)]) := by
  refine con_of Tryz.func81 34 [(0, Sl a_l l.length c_l)] rfl (fun w0 G0 => ?_)
  refine tc_rbn [0,0] [] ?_
  refine tc_seq ?_
  refine tc_rbn [0,0,0] [(9, Bo (decide (((l.length : Nat) : Int) > 60)))] ?_
  refine tc_condP (decide (((l.length : Nat) : Int) > 60)) (fun h1 => ?_) (fun h1 => ?_)
  ·
    refine tc_rbn [0,0] [(2, Sr ([])), (3, I 2)] ?_
    refine tc_ret ?_
    refine tq_then_ret ?_
    refine tq_ret [0, 0] [Sr ([]), I 2] (bp_ret (Mem.le_refl _) ?_)
    have hf_ : (wPut l) = ([], 2) := by
      unfold wPut; first | (rw [if_pos (by omega)]; done) | (rw [if_neg (by omega), hk]; first | (rw [putOk_no hx1 (by omega)]; rfl) | (rw [List.drop_eq_nil_of_le (by omega), ht, List.take_of_length_le (by omega)]; rfl))
    (try rw [hf_]); first | with_reducible rfl | (simp only [packR]; done) | rfl
  ·
    refine tc_skip ?_
    refine tq_then ?_
    refine tc_seq ?_
    refine tc_region ?_
    refine runL_boxT 4 #[.pointer none, Sl none 0 0] 155 (fun b1 => ?_)
    refine runL_nil ?_
    refine tq_then ?_
    refine tc_seq ?_
    refine tc_rbn [0,0,0] [(10, Sl a_l l.length c_l), (11, I (((l.length : Nat) : Int))), (12, I 0)] ?_
    refine tc_block ?_
    refine tc_empty ?_
    have hlm_h_l : l.length ≤ 9223372036854775807 := Nat.le_trans (h_l).le (h_l).max
    refine tc_loop (σ := Nat × Value × Option Addr × Nat × List Seg × List UInt8 × Mem) (fun q_ => (Mem.le G q_.2.2.2.2.2.2) ∧ (q_.1 ≤ l.length) ∧ (q_.2.1 = .pointer none ∨ q_.2.1 = Pt b1 0) ∧ (BRow 5 q_.2.2.1 q_.2.2.2.1 q_.2.2.2.2.2.1 q_.2.2.2.2.1) ∧ (q_.2.2.2.2.2.1 = putT (l.take q_.1)) ∧ (q_.2.2.2.2.2.1.length ≤ 600) ∧ (putOk 0 l = putOk q_.2.2.2.2.2.1.length (l.drop q_.1))) (fun q_ => [(4, Pt b1 0), (10, Sl a_l l.length c_l), (11, I (((l.length : Nat) : Int))), (12, I ((q_.1 : Int)))]) (fun q_ => q_.2.2.2.2.2.2) (fun q_ => [q_.2.2.2.2.1, [SgT 155 b1 0 [q_.2.1, Sl q_.2.2.1 q_.2.2.2.2.2.1.length q_.2.2.2.1]]]) (fun q_ => l.length - q_.1) ((0, .pointer none, none, 0, [], [], G)) ⟨(Mem.le_refl _), (by (try dsimp only); first | exact Nat.zero_le _ | omega | simp), (.inl rfl), (BRow.nil _), rfl, (by (try dsimp only); simp), rfl⟩ (fun q_ hs => ?_)
    obtain ⟨i, A, a, c, r, t, g⟩ := q_
    obtain ⟨hle, hi, hA, hb, ht, hl6, hk⟩ := hs
    dsimp only at hle hi hA hb ht hl6 hk
    refine tc_eq (fr' := [(4, Pt b1 0), (10, Sl a_l l.length c_l), (11, I (((l.length : Nat) : Int))), (12, I ((i : Int)))]) (L' := [r, [SgT 155 b1 0 [A, Sl a t.length c]]]) rfl rfl ?_
    refine tc_rbn [0] [(13, Bo (decide ((i : Int) < ((l.length : Nat) : Int))))] ?_
    refine tc_seq ?_
    refine tc_condP (decide ((i : Int) < ((l.length : Nat) : Int))) (fun h2 => ?_) (fun h2 => ?_)
    ·
      refine tc_skip ?_
      refine tq_then ?_
      refine tc_seq ?_
      refine tc_block ?_
      refine tc_seq ?_
      refine tc_region ?_
      obtain ⟨b2, o1, rfl⟩ := RS.addr (h_l.mono hle) (k := i) (by omega)
      obtain ⟨x1, hx1⟩ := getX (l := l) (k := i) (by omega)
      obtain ⟨_, ⟨rfl, w1⟩, hc1⟩ := RS.get (h_l.mono hle) hx1
      refine runL_idx (b := b2) (off := o1) (len := l.length) (cap := c_l) (ik := .i64) 14 9 1 i (by omega) ?_
      refine runL_ldG 15 9 (cs := [Sr x1]) 0 (Sr x1) hc1 ?_
      refine runL_bn [0] [(6, Sr x1)] ?_
      refine runL_nil ?_
      refine tq_then ?_
      refine tc_seq ?_
      refine tc_seq ?_
      refine tc_region ?_
      refine runL_bn [0,0] [(17, I (((x1).length : Int)))] ?_
      refine runL_front 0 ?_
      refine runL_front 1 ?_
      refine runL_callL (Ls := [[SgT 155 b1 0 [A, Sl a t.length c]], r]) (Lr := []) 18 (bLen_con g b1 A a c t r hb hA) (fun v G1 L1 hl1 hp => ?_)
      obtain ⟨rfl, rfl⟩ := hp
      refine runL_bn [0,0] [(20, Bo (decide (((x1).length : Int) > IntKind.i64.wrap (598 - (((t).length : Int))))))] ?_
      have e1 : IntKind.i64.wrap (598 - (((t).length : Int))) = 598 - (((t).length : Int)) := IntWalk.i64_in _ (by omega)
      refine runL_put 20 (Bo (decide (((x1).length : Int) > 598 - (((t).length : Int))))) ((show (Bo (decide (((x1).length : Int) > IntKind.i64.wrap (598 - (((t).length : Int))))) : Value) = Bo (decide (((x1).length : Int) > 598 - (((t).length : Int)))) by simp only [e1])) ?_
      clear e1
      refine runL_nil ?_
      refine tq_then ?_
      refine tc_condP (decide (((x1).length : Int) > 598 - (((t).length : Int)))) (fun h3 => ?_) (fun h3 => ?_)
      ·
        refine tc_rbn [0,0] [(2, Sr ([])), (3, I 2)] ?_
        refine tc_ret ?_
        refine tq_then_ret ?_
        refine tq_block_ret ?_
        refine tq_then_ret ?_
        refine tq_rnd_ret ?_
        refine tq_block_ret ?_
        refine tq_then_ret ?_
        refine tq_ret [0, 0] [Sr ([]), I 2] (bp_ret (Mem.le_trans hle hl1) ?_)
        have hf_ : (wPut l) = ([], 2) := by
          unfold wPut; first | (rw [if_pos (by omega)]; done) | (rw [if_neg (by omega), hk]; first | (rw [putOk_no hx1 (by omega)]; rfl) | (rw [List.drop_eq_nil_of_le (by omega), ht, List.take_of_length_le (by omega)]; rfl))
        (try rw [hf_]); first | with_reducible rfl | (simp only [packR]; done) | rfl
      ·
        refine tc_skip ?_
        refine tq_then ?_
        refine tc_seq ?_
        refine tc_region ?_
        refine runL_bn [0,0,0,0] [(24, Y (IntKind.u8.wrap ((((x1).length : Int)).fdiv (2 ^ 8))))] ?_
        refine runL_front 1 ?_
        refine runL_front 1 ?_
        refine runL_callL (Ls := [[SgT 155 b1 0 [A, Sl a t.length c]], r]) (Lr := []) 25 (bWriteByte_con G1 b1 A a c t r hb hA (IntKind.u8.wrap ((((x1).length : Int)).fdiv (2 ^ 8))) (u8w _) (by first | omega | (simp only [List.length_append, List.length_cons, List.length_nil]; omega))) (fun v G2 L1 hl2 hp => ?_)
        obtain ⟨a1, c1, r1, rfl, hb1, rfl⟩ := hp
        refine runL_nil ?_
        refine tq_then ?_
        refine tc_seq ?_
        refine tc_region ?_
        refine runL_bn [0,0,0] [(28, Y (IntKind.u8.wrap (((x1).length : Int))))] ?_
        refine runL_front 1 ?_
        refine runL_front 1 ?_
        refine runL_callL (Ls := [[SgT 155 b1 0 [Pt b1 0, Sl a1 ((t ++ [byteI (IntKind.u8.wrap ((((x1).length : Int)).fdiv (2 ^ 8)))]).length) c1]], r1]) (Lr := []) 29 (bWriteByte_con G2 b1 (Pt b1 0) a1 c1 (t ++ [byteI (IntKind.u8.wrap ((((x1).length : Int)).fdiv (2 ^ 8)))]) r1 hb1 (.inr rfl) (IntKind.u8.wrap (((x1).length : Int))) (u8w _) (by first | omega | (simp only [List.length_append, List.length_cons, List.length_nil]; omega))) (fun v G3 L1 hl3 hp => ?_)
        obtain ⟨a2, c2, r2, rfl, hb2, rfl⟩ := hp
        refine runL_nil ?_
        refine tq_then ?_
        refine tc_region ?_
        refine runL_bn [0] [(30, Sr x1)] ?_
        refine runL_front 1 ?_
        refine runL_front 1 ?_
        refine runL_callL (Ls := [[SgT 155 b1 0 [Pt b1 0, Sl a2 (((t ++ [byteI (IntKind.u8.wrap ((((x1).length : Int)).fdiv (2 ^ 8)))]) ++ [byteI (IntKind.u8.wrap (((x1).length : Int)))]).length) c2]], r2]) (Lr := []) 31 (bWriteString_con G3 b1 (Pt b1 0) a2 c2 ((t ++ [byteI (IntKind.u8.wrap ((((x1).length : Int)).fdiv (2 ^ 8)))]) ++ [byteI (IntKind.u8.wrap (((x1).length : Int)))]) r2 hb2 (.inr rfl) x1 (by first | omega | (simp only [List.length_append, List.length_cons, List.length_nil]; omega))) (fun v G4 L1 hl4 hp => ?_)
        obtain ⟨a3, c3, r3, rfl, hb3, rfl⟩ := hp
        refine runL_nil ?_
        refine tq_block ?_
        refine tq_then ?_
        refine tc_region ?_
        refine runL_bn [0,0] [(12, I (IntKind.i64.wrap (((i : Int)) + 1)))] ?_
        refine runL_wi64 12 (((i : Int)) + 1) (by omega) ?_
        refine runL_nil ?_
        refine tq_front 0 ?_
        refine tq_front 1 ?_
        refine tq_ownsA [r3, [SgT 155 b1 0 [Pt b1 0, Sl a3 ((((t ++ [byteI (IntKind.u8.wrap ((((x1).length : Int)).fdiv (2 ^ 8)))]) ++ [byteI (IntKind.u8.wrap (((x1).length : Int)))]) ++ x1).length) c3]]] ?_
        exact tq_rnd ((i + 1, Pt b1 0, a3, c3, r3, ((t ++ [byteI (IntKind.u8.wrap ((((x1).length : Int)).fdiv (2 ^ 8)))]) ++ [byteI (IntKind.u8.wrap (((x1).length : Int)))]) ++ x1, G4)) ⟨(Mem.le_trans hle (Mem.le_trans (Mem.le_trans (Mem.le_trans hl1 hl2) hl3) hl4)), (by omega), (.inr rfl), hb3, (by rw [ht]; exact putT_take hx1), (by simp only [List.length_append, List.length_cons, List.length_nil]; omega), (by rw [hk, putOk_step (n := t.length) hx1 (by omega)]; simp [Nat.add_assoc, Nat.add_comm, Nat.add_left_comm])⟩ (by (try dsimp only); omega)
    ·
      refine tc_exit ?_
      refine tq_then_exit ?_
      refine tq_rnd_exit ?_
      refine tq_block_here ?_
      refine tq_then ?_
      refine tc_seq ?_
      refine tc_region ?_
      refine runL_front 0 ?_
      refine runL_front 1 ?_
      refine runL_callL (Ls := [[SgT 155 b1 0 [A, Sl a t.length c]], r]) (Lr := []) 33 (bString_con g b1 A a c t r hb hA) (fun v G5 L1 hl5 hp => ?_)
      obtain ⟨rfl, rfl⟩ := hp
      refine runL_bn [0,0] [(2, Sr t), (3, I 0)] ?_
      refine runL_nil ?_
      refine tq_then ?_
      refine tc_ret ?_
      refine tq_ret [0, 0] [Sr t, I 0] (bp_ret (Mem.le_trans hle hl5) ?_)
      have hf_ : (wPut l) = (t, 0) := by
        unfold wPut; first | (rw [if_pos (by omega)]; done) | (rw [if_neg (by omega), hk]; first | (rw [putOk_no hx1 (by omega)]; rfl) | (rw [List.drop_eq_nil_of_le (by omega), ht, List.take_of_length_le (by omega)]; rfl))
      (try rw [hf_]); first | with_reducible rfl | (simp only [packR]; done) | rfl
end Go.Proofs.YtngoijkcbmchdaaGreatDoor
