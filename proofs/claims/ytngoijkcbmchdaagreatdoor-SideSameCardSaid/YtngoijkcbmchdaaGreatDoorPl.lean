/- Plain laws: numbers as bytes. -/
import Derived.Test.YtngoijkcbmchdaaGreatDoorLaw
set_option linter.unusedVariables false
set_option linter.unusedSimpArgs false
namespace Go.Proofs.YtngoijkcbmchdaaGreatDoor
open Go.Tx
abbrev ConP (k : FuncId) (args : Array Value) (G : Mem) (L : List (List Seg)) (p : Value → Mem → List (List Seg) → Prop) : Prop := Con Tryz.prog k args G L p
abbrev ConV (k : FuncId) (args : Array Value) (G : Mem) (v : Value) : Prop := Con Tryz.prog k args G [] (fun u _ _ => u = v)
theorem foldl_take {α β : Type} {f : β → α → β} {z : β} {l : List α} {i : Nat} {x : α} (h : l[i]? = some x) : (l.take (i + 1)).foldl f z = f ((l.take i).foldl f z) x := by
  rw [List.take_add_one, h]; simp
/-- a number's bytes -/
def numL (n : Int) : List Int := [IntKind.u8.wrap (n.fdiv (2 ^ 56)), IntKind.u8.wrap (n.fdiv (2 ^ 48)), IntKind.u8.wrap (n.fdiv (2 ^ 40)), IntKind.u8.wrap (n.fdiv (2 ^ 32)), IntKind.u8.wrap (n.fdiv (2 ^ 24)), IntKind.u8.wrap (n.fdiv (2 ^ 16)), IntKind.u8.wrap (n.fdiv (2 ^ 8)), IntKind.u8.wrap (n.fdiv (2 ^ 0))]
def numB (n : Int) : List UInt8 := (numL n).map fun x => UInt8.ofNat x.toNat
def readS (n : Int) (b : UInt8) : Int := IntKind.u64.wrap ((BitVec.ofInt 64 (IntKind.u64.wrap (n * 2 ^ 8)) ||| BitVec.ofInt 64 (IntKind.u64.wrap (b.toNat : Int))).toNat : Int)
def readN (l : List UInt8) : Int := l.foldl readS 0
def readNum (l : List UInt8) : Int × Int := if l.length = 8 then (readN l, 0) else (0, 3)
@[simp] theorem numB_length (n : Int) : (numB n).length = 8 := by simp [numB, numL]
theorem wrap_u64 {x : Int} (h0 : 0 ≤ x) (h1 : x < 18446744073709551616) : IntKind.u64.wrap x = x := IntWalk.u64_in _ (by omega)
theorem wrap_u8 (x : Int) : IntKind.u8.wrap x = x % 256 := by
  simp [IntKind.wrap, IntKind.signed, IntKind.bits]
theorem wrap_u64m (x : Int) : IntKind.u64.wrap x = x % 18446744073709551616 := by
  simp [IntKind.wrap, IntKind.signed, IntKind.bits]
theorem wrap_i64 {x : Int} (h0 : -9223372036854775808 ≤ x) (h1 : x < 9223372036854775808) : IntKind.i64.wrap x = x := IntWalk.i64_in _ (by omega)
theorem readS_eq {n : Int} {b : UInt8} (h0 : 0 ≤ n) (h1 : n < 72057594037927936) : readS n b = n * 256 + (b.toNat : Int) := by
  obtain ⟨m, rfl⟩ := Int.eq_ofNat_of_zero_le h0
  have hb := b.toNat_lt
  unfold readS
  rw [wrap_u64 (x := (m : Int) * 2 ^ 8) (by omega) (by omega), wrap_u64 (x := (b.toNat : Int)) (by omega) (by omega)]
  have e1 : ((m : Int) * 2 ^ 8) = ((m * 256 : Nat) : Int) := by omega
  rw [e1, BitVec.toNat_or, BitVec.ofInt_natCast, BitVec.ofInt_natCast, BitVec.toNat_ofNat, BitVec.toNat_ofNat, Nat.mod_eq_of_lt (by omega), Nat.mod_eq_of_lt (by omega)]
  have e2 : m * 256 ||| b.toNat = m * 256 + b.toNat := by
    have := Nat.shiftLeft_add_eq_or_of_lt (i := 8) (b := b.toNat) (by omega) m
    rw [Nat.shiftLeft_eq] at this
    exact this.symm
  rw [e2, wrap_u64 (by omega) (by omega)]
  omega
theorem byte_of (n : Int) : ((UInt8.ofNat (IntKind.u8.wrap n).toNat).toNat : Int) = n % 256 := by
  rw [wrap_u8, UInt8.toNat_ofNat']
  have h0 := Int.emod_nonneg n (show (256 : Int) ≠ 0 by omega)
  have h1 := Int.emod_lt_of_pos n (show (0 : Int) < 256 by omega)
  rw [Nat.mod_eq_of_lt (by omega)]
  omega
theorem readN_numB {n : Int} (h0 : 0 ≤ n) (h1 : n < 18446744073709551616) : readN (numB n) = n := by
  simp only [readN, numB, numL, List.map_cons, List.map_nil, List.foldl_cons, List.foldl_nil]
  have fd : ∀ k : Nat, n.fdiv (2 ^ k) = n / (2 ^ k : Int) := fun k => Int.fdiv_eq_ediv_of_nonneg _ (by exact Int.le_of_lt (Int.pow_pos (by omega)))
  simp only [fd]
  have t : ∀ (a c : Int), 0 ≤ a → a < 72057594037927936 → a = c / 256 → readS a (UInt8.ofNat (IntKind.u8.wrap c).toNat) = c := by
    intro a c ha hb hc
    rw [readS_eq ha hb, byte_of]
    omega
  rw [t 0 (n / 2 ^ 56) (by omega) (by omega) (by omega), t (n / 2 ^ 56) (n / 2 ^ 48) (by omega) (by omega) (by omega), t (n / 2 ^ 48) (n / 2 ^ 40) (by omega) (by omega) (by omega),
    t (n / 2 ^ 40) (n / 2 ^ 32) (by omega) (by omega) (by omega), t (n / 2 ^ 32) (n / 2 ^ 24) (by omega) (by omega) (by omega), t (n / 2 ^ 24) (n / 2 ^ 16) (by omega) (by omega) (by omega),
    t (n / 2 ^ 16) (n / 2 ^ 8) (by omega) (by omega) (by omega), t (n / 2 ^ 8) (n / 2 ^ 0) (by omega) (by omega) (by omega)]
  omega
theorem readN_bound (l : List UInt8) (h : l.length = 8) : 0 ≤ readN l ∧ readN l < 18446744073709551616 ∧ numB (readN l) = l := by
  match l, h with
  | [a, b, c, d, e, f, g, i], _ =>
    have ha := a.toNat_lt; have hb := b.toNat_lt; have hc := c.toNat_lt; have hd := d.toNat_lt
    have he := e.toNat_lt; have hf := f.toNat_lt; have hg := g.toNat_lt; have hi := i.toNat_lt
    simp only [readN, List.foldl_cons, List.foldl_nil]
    rw [readS_eq (n := 0) (by omega) (by omega)]
    rw [readS_eq (b := b) (by omega) (by omega), readS_eq (b := c) (by omega) (by omega), readS_eq (b := d) (by omega) (by omega), readS_eq (b := e) (by omega) (by omega), readS_eq (b := f) (by omega) (by omega), readS_eq (b := g) (by omega) (by omega), readS_eq (b := i) (by omega) (by omega)]
    refine ⟨by omega, by omega, ?_⟩
    have fd : ∀ (n : Int) (k : Nat), n.fdiv (2 ^ k) = n / (2 ^ k : Int) := fun n k => Int.fdiv_eq_ediv_of_nonneg _ (by exact Int.le_of_lt (Int.pow_pos (by omega)))
    have key : ∀ (n : Int) (x : UInt8), n % 256 = (x.toNat : Int) → UInt8.ofNat (IntKind.u8.wrap n).toNat = x := fun n x hx => by
      apply UInt8.toNat.inj
      have := byte_of n
      omega
    simp only [numB, numL, fd, List.map_cons, List.map_nil, List.cons.injEq, and_true]
    refine ⟨key _ _ ?_, key _ _ ?_, key _ _ ?_, key _ _ ?_, key _ _ ?_, key _ _ ?_, key _ _ ?_, key _ _ ?_⟩ <;> omega

/-! ### Elements; searching -/
def EErr : Elt Int := ⟨1, 8, fun _ cs x => cs = [I x], fun _ h => h, fun h => by rw [h]; rfl, fun h u hu => by rw [h] at hu; cases List.mem_singleton.1 hu; rfl, [I 0], fun _ => ⟨0, rfl⟩⟩
def idxF {α : Type} (p : α → Bool) (l : List α) : Int := match l.findIdx? p with | some i => (i : Int) | none => -1
theorem idxF_some {α : Type} {p : α → Bool} {l : List α} {i : Nat} {x : α} (h : l[i]? = some x) (hp : p x = true) (hi : (l.take i).any p = false) : idxF p l = (i : Int) := by
  have : l.findIdx? p = some i := by
    rw [List.findIdx?_eq_some_iff_getElem]
    obtain ⟨h1, h2⟩ := List.getElem?_eq_some_iff.1 h
    refine ⟨h1, by rw [h2]; exact hp, fun j hj => ?_⟩
    have h3 : (l.take i)[j]? = some l[j] := by rw [List.getElem?_take, if_pos hj, List.getElem?_eq_getElem (by omega)]
    have := List.any_eq_false.1 hi _ (List.mem_of_getElem? h3)
    simpa using this
  simp [idxF, this]
theorem any_take {α : Type} {p : α → Bool} {l : List α} {i : Nat} {x : α} (h : l[i]? = some x) (hp : p x = false) (hi : (l.take i).any p = false) : (l.take (i + 1)).any p = false := by
  rw [List.take_add_one, h]; simp [hi, hp]
theorem idxF_none {α : Type} {p : α → Bool} {l : List α} (hi : l.any p = false) : idxF p l = -1 := by
  have : l.findIdx? p = none := by
    rw [List.findIdx?_eq_none_iff]
    intro x hx
    simpa using List.any_eq_false.1 hi x hx
  simp [idxF, this]
theorem idxF_any {α : Type} (p : α → Bool) (l : List α) : decide (idxF p l ≥ 0) = l.any p := by
  cases h : l.any p with
  | false => rw [idxF_none h]; rfl
  | true =>
    have : (l.findIdx? p).isSome := by rw [List.findIdx?_isSome]; exact h
    obtain ⟨i, hi⟩ := Option.isSome_iff_exists.1 this
    simp [idxF, hi]

/-! ### Products of two words -/
theorem and32 {x : Int} (h : 0 ≤ x ∧ x < 18446744073709551616) : IntKind.u64.wrap ((BitVec.ofInt 64 x &&& BitVec.ofInt 64 4294967295).toNat : Int) = x % 4294967296 := by
  obtain ⟨m, rfl⟩ := Int.eq_ofNat_of_zero_le h.1
  have e : (4294967295 : Int) = ((4294967295 : Nat) : Int) := rfl
  rw [e, BitVec.toNat_and, BitVec.ofInt_natCast, BitVec.ofInt_natCast, BitVec.toNat_ofNat, BitVec.toNat_ofNat, Nat.mod_eq_of_lt (by omega), Nat.mod_eq_of_lt (by omega)]
  have e2 : m &&& 4294967295 = m % 4294967296 := Nat.and_two_pow_sub_one_eq_mod m 32
  rw [e2, wrap_u64 (by omega) (by omega)]
  omega
theorem fdiv32 (x : Int) : x.fdiv (2 ^ 32) = x / 4294967296 := Int.fdiv_eq_ediv_of_nonneg _ (by decide)
theorem mul_bd {a b : Int} (ha : 0 ≤ a ∧ a < 4294967296) (hb : 0 ≤ b ∧ b < 4294967296) : 0 ≤ a * b ∧ a * b ≤ 18446744065119617025 := by
  refine ⟨Int.mul_nonneg ha.1 hb.1, ?_⟩
  have h1 : a * b ≤ 4294967295 * b := Int.mul_le_mul_of_nonneg_right (by omega) hb.1
  omega
theorem mul64_hi {x y : Int} (hx : 0 ≤ x ∧ x < 18446744073709551616) (hy : 0 ≤ y ∧ y < 18446744073709551616) :
    IntKind.u64.wrap (IntKind.u64.wrap (IntKind.u64.wrap (x.fdiv (2 ^ 32) * y.fdiv (2 ^ 32)) +
      (IntKind.u64.wrap (IntKind.u64.wrap (x.fdiv (2 ^ 32) * IntKind.u64.wrap ((BitVec.ofInt 64 y &&& BitVec.ofInt 64 4294967295).toNat : Int)) +
        (IntKind.u64.wrap (IntKind.u64.wrap ((BitVec.ofInt 64 x &&& BitVec.ofInt 64 4294967295).toNat : Int) * IntKind.u64.wrap ((BitVec.ofInt 64 y &&& BitVec.ofInt 64 4294967295).toNat : Int))).fdiv (2 ^ 32))).fdiv (2 ^ 32)) +
      (IntKind.u64.wrap (IntKind.u64.wrap ((BitVec.ofInt 64 (IntKind.u64.wrap (IntKind.u64.wrap (x.fdiv (2 ^ 32) * IntKind.u64.wrap ((BitVec.ofInt 64 y &&& BitVec.ofInt 64 4294967295).toNat : Int)) +
        (IntKind.u64.wrap (IntKind.u64.wrap ((BitVec.ofInt 64 x &&& BitVec.ofInt 64 4294967295).toNat : Int) * IntKind.u64.wrap ((BitVec.ofInt 64 y &&& BitVec.ofInt 64 4294967295).toNat : Int))).fdiv (2 ^ 32))) &&& BitVec.ofInt 64 4294967295).toNat : Int) +
        IntKind.u64.wrap (IntKind.u64.wrap ((BitVec.ofInt 64 x &&& BitVec.ofInt 64 4294967295).toNat : Int) * y.fdiv (2 ^ 32)))).fdiv (2 ^ 32)) = x * y / 18446744073709551616 := by
  rw [and32 hx, and32 hy]
  simp only [fdiv32]
  have hx1 : 0 ≤ x / 4294967296 ∧ x / 4294967296 < 4294967296 := by omega
  have hx0 : 0 ≤ x % 4294967296 ∧ x % 4294967296 < 4294967296 := by omega
  have hy1 : 0 ≤ y / 4294967296 ∧ y / 4294967296 < 4294967296 := by omega
  have hy0 : 0 ≤ y % 4294967296 ∧ y % 4294967296 < 4294967296 := by omega
  have ex : x = x / 4294967296 * 4294967296 + x % 4294967296 := by omega
  have ey : y = y / 4294967296 * 4294967296 + y % 4294967296 := by omega
  have exy : x * y = (x / 4294967296 * (y / 4294967296)) * 18446744073709551616 + (x / 4294967296 * (y % 4294967296) + x % 4294967296 * (y / 4294967296)) * 4294967296 + x % 4294967296 * (y % 4294967296) := by
    generalize x / 4294967296 = x1 at *
    generalize x % 4294967296 = x0 at *
    generalize y / 4294967296 = y1 at *
    generalize y % 4294967296 = y0 at *
    subst ex ey
    simp only [Int.mul_add, Int.add_mul]
    have r : ∀ a b : Int, a * 4294967296 * (b * 4294967296) = a * b * 18446744073709551616 := fun a b => by
      rw [Int.mul_assoc a, Int.mul_comm 4294967296, Int.mul_assoc b, ← Int.mul_assoc a]; rfl
    have r1 : ∀ a b : Int, a * 4294967296 * b = a * b * 4294967296 := fun a b => by rw [Int.mul_assoc, Int.mul_comm 4294967296, ← Int.mul_assoc]
    have r2 : ∀ a b : Int, a * (b * 4294967296) = a * b * 4294967296 := fun a b => by rw [Int.mul_assoc]
    rw [r, r1, r2]
    omega
  rw [exy]
  have b11 := mul_bd hx1 hy1
  have b10 := mul_bd hx1 hy0
  have b01 := mul_bd hx0 hy1
  have b00 := mul_bd hx0 hy0
  generalize x / 4294967296 * (y / 4294967296) = p11 at *
  generalize x / 4294967296 * (y % 4294967296) = p10 at *
  generalize x % 4294967296 * (y / 4294967296) = p01 at *
  generalize x % 4294967296 * (y % 4294967296) = p00 at *
  clear exy ex ey
  rw [wrap_u64 (x := p00) (by omega) (by omega), wrap_u64 (x := p10) (by omega) (by omega), wrap_u64 (x := p01) (by omega) (by omega), wrap_u64 (x := p11) (by omega) (by omega)]
  rw [wrap_u64 (x := p10 + p00 / 4294967296) (by omega) (by omega), and32 ⟨by omega, by omega⟩]
  rw [wrap_u64 (x := (p10 + p00 / 4294967296) % 4294967296 + p01) (by omega) (by omega)]
  rw [wrap_u64 (x := p11 + (p10 + p00 / 4294967296) / 4294967296) (by omega) (by omega)]
  rw [wrap_u64 (by omega) (by omega)]
  omega

/-! ### Division of two words by 2^61 - 1, as math/bits does it (Knuth's) -/
def divU (hi lo : Int) : Int := IntKind.u64.wrap ((BitVec.ofInt 64 (IntKind.u64.wrap (hi * 2 ^ 3)) ||| BitVec.ofInt 64 (lo.fdiv (2 ^ 61))).toNat : Int)
theorem divU_eq {hi lo : Int} (h : 0 ≤ hi ∧ hi < 2305843009213693951) (hl : 0 ≤ lo ∧ lo < 18446744073709551616) : divU hi lo = hi * 8 + lo / 2305843009213693952 := by
  obtain ⟨a, rfl⟩ := Int.eq_ofNat_of_zero_le h.1
  obtain ⟨b, rfl⟩ := Int.eq_ofNat_of_zero_le hl.1
  unfold divU
  have e1 : IntKind.u64.wrap ((a : Int) * 2 ^ 3) = ((a * 8 : Nat) : Int) := by rw [wrap_u64 (by omega) (by omega)]; omega
  have e2 : (b : Int).fdiv (2 ^ 61) = ((b / 2305843009213693952 : Nat) : Int) := by
    rw [Int.fdiv_eq_ediv_of_nonneg _ (by decide)]; omega
  rw [e1, e2, BitVec.toNat_or, BitVec.ofInt_natCast, BitVec.ofInt_natCast, BitVec.toNat_ofNat, BitVec.toNat_ofNat, Nat.mod_eq_of_lt (by omega), Nat.mod_eq_of_lt (by omega)]
  have e3 : a * 8 ||| b / 2305843009213693952 = a * 8 + b / 2305843009213693952 := by
    have := Nat.shiftLeft_add_eq_or_of_lt (i := 3) (b := b / 2305843009213693952) (by omega) a
    rw [Nat.shiftLeft_eq] at this
    exact this.symm
  rw [e3, wrap_u64 (by omega) (by omega)]
  omega
structure DigInv (u z q r : Int) : Prop where
  u0 : 0 ≤ u
  u1 : u < 18446744073709551608
  z0 : 0 ≤ z
  z1 : z < 4294967296
  r0 : 0 ≤ r
  r1 : r < 4294967296
  q0 : 0 ≤ q
  e : u = q * 4294967295 + r
  up : u * 4294967296 + z < (q + 1) * 18446744073709551608
theorem dig_start {u z : Int} (h : 0 ≤ u ∧ u < 18446744073709551608) (hz : 0 ≤ z ∧ z < 4294967296) :
    DigInv u z (IntKind.u64.wrap (u.tdiv 4294967295)) (IntKind.u64.wrap (u - IntKind.u64.wrap (IntKind.u64.wrap (u.tdiv 4294967295) * 4294967295))) := by
  have e : u.tdiv 4294967295 = u / 4294967295 := Int.tdiv_eq_ediv_of_nonneg h.1
  rw [e, wrap_u64 (x := u / 4294967295) (by omega) (by omega), wrap_u64 (x := u / 4294967295 * 4294967295) (by omega) (by omega), wrap_u64 (by omega) (by omega)]
  exact ⟨h.1, h.2, hz.1, hz.2, by omega, by omega, by omega, by omega, by omega⟩
theorem dig_more {u z q r : Int} (h : DigInv u z q r) (hc : q ≥ 4294967296 ∨ IntKind.u64.wrap (q * 4294967288) > IntKind.u64.wrap (IntKind.u64.wrap (4294967296 * r) + z)) :
    0 < q ∧ IntKind.u64.wrap (q - 1) = q - 1 ∧ IntKind.u64.wrap (r + 4294967295) = r + 4294967295 ∧ u * 4294967296 + z < q * 18446744073709551608 := by
  obtain ⟨h1, h2, h3, h4, h5, h6, h7, h8, h9⟩ := h
  have key : u * 4294967296 + z < q * 18446744073709551608 := by
    rcases Int.lt_or_le q 4294967296 with hq | hq
    · rcases hc with hc | hc
      · omega
      · rw [wrap_u64 (x := q * 4294967288) (by omega) (by omega), wrap_u64 (x := 4294967296 * r) (by omega) (by omega), wrap_u64 (by omega) (by omega)] at hc
        omega
    · omega
  have hq : 0 < q := by omega
  exact ⟨hq, wrap_u64 (by omega) (by omega), wrap_u64 (by omega) (by omega), key⟩
theorem dig_next {u z q r : Int} (h : DigInv u z q r) (hc : q ≥ 4294967296 ∨ IntKind.u64.wrap (q * 4294967288) > IntKind.u64.wrap (IntKind.u64.wrap (4294967296 * r) + z)) (hr : r + 4294967295 < 4294967296) :
    DigInv u z (q - 1) (r + 4294967295) := by
  have := dig_more h hc
  obtain ⟨h1, h2, h3, h4, h5, h6, h7, h8, h9⟩ := h
  exact ⟨h1, h2, h3, h4, by omega, hr, by omega, by omega, by omega⟩
/-- the digit is right -/
structure Dig (u z q : Int) : Prop where
  q0 : 0 ≤ q
  q1 : q < 4294967296
  lo : q * 18446744073709551608 ≤ u * 4294967296 + z
  up : u * 4294967296 + z < (q + 1) * 18446744073709551608
theorem dig_exit {u z q r : Int} (h : DigInv u z q r) (hc : q < 4294967296 ∧ IntKind.u64.wrap (q * 4294967288) ≤ IntKind.u64.wrap (IntKind.u64.wrap (4294967296 * r) + z)) : Dig u z q := by
  obtain ⟨h1, h2, h3, h4, h5, h6, h7, h8, h9⟩ := h
  have hc2 := hc.2
  rw [wrap_u64 (x := q * 4294967288) (by omega) (by omega), wrap_u64 (x := 4294967296 * r) (by omega) (by omega), wrap_u64 (by omega) (by omega)] at hc2
  exact ⟨h7, hc.1, by omega, h9⟩
theorem dig_break {u z q r : Int} (h : DigInv u z q r) (hc : q ≥ 4294967296 ∨ IntKind.u64.wrap (q * 4294967288) > IntKind.u64.wrap (IntKind.u64.wrap (4294967296 * r) + z)) (hr : r + 4294967295 ≥ 4294967296) : Dig u z (q - 1) := by
  have := dig_more h hc
  obtain ⟨h1, h2, h3, h4, h5, h6, h7, h8, h9⟩ := h
  exact ⟨by omega, by omega, by omega, by omega⟩

def divL (lo : Int) : Int := IntKind.u64.wrap (lo * 2 ^ 3)
def divH (lo : Int) : Int := (divL lo).fdiv (2 ^ 32)
def divZ (lo : Int) : Int := IntKind.u64.wrap ((BitVec.ofInt 64 (divL lo) &&& BitVec.ofInt 64 4294967295).toNat : Int)
def divR (u z q : Int) : Int := IntKind.u64.wrap (IntKind.u64.wrap (IntKind.u64.wrap (u * 4294967296) + z) - IntKind.u64.wrap (q * 18446744073709551608))
theorem divL_eq (lo : Int) : divL lo = lo * 8 % 18446744073709551616 := by unfold divL; rw [wrap_u64m]; omega
theorem divL_bd (lo : Int) : 0 ≤ divL lo ∧ divL lo < 18446744073709551616 := by rw [divL_eq]; omega
theorem divH_eq (lo : Int) : divH lo = divL lo / 4294967296 := fdiv32 _
theorem divZ_eq (lo : Int) : divZ lo = divL lo % 4294967296 := and32 (divL_bd lo)
theorem divR_eq {u z q : Int} (h : Dig u z q) (hu : 0 ≤ u) (hz : 0 ≤ z) : divR u z q = u * 4294967296 + z - q * 18446744073709551608 ∧ 0 ≤ divR u z q ∧ divR u z q < 18446744073709551608 := by
  obtain ⟨h1, h2, h3, h4⟩ := h
  have : divR u z q = u * 4294967296 + z - q * 18446744073709551608 := by
    unfold divR; simp only [wrap_u64m]; omega
  rw [this]; omega
theorem divU_bd {hi lo : Int} (h : 0 ≤ hi ∧ hi < 2305843009213693951) (hl : 0 ≤ lo ∧ lo < 18446744073709551616) : 0 ≤ divU hi lo ∧ divU hi lo < 18446744073709551608 := by
  rw [divU_eq h hl]; omega
theorem divH_bd (lo : Int) : 0 ≤ divH lo ∧ divH lo < 4294967296 := by rw [divH_eq]; have := divL_bd lo; omega
theorem divZ_bd (lo : Int) : 0 ≤ divZ lo ∧ divZ lo < 4294967296 := by rw [divZ_eq]; omega
theorem div_end {hi lo q q0 : Int} (h : 0 ≤ hi ∧ hi < 2305843009213693951) (hl : 0 ≤ lo ∧ lo < 18446744073709551616) (h1 : Dig (divU hi lo) (divH lo) q) (h2 : Dig (divR (divU hi lo) (divH lo) q) (divZ lo) q0) :
    IntKind.u64.wrap (IntKind.u64.wrap (q * 4294967296) + q0) = (hi * 18446744073709551616 + lo) / 2305843009213693951 ∧
    (divR (divR (divU hi lo) (divH lo) q) (divZ lo) q0).fdiv (2 ^ 3) = (hi * 18446744073709551616 + lo) % 2305843009213693951 := by
  have e1 := divR_eq h1 (divU_bd h hl).1 (divH_bd lo).1
  have e2 := divR_eq h2 e1.2.1 (divZ_bd lo).1
  have e3 := divU_eq h hl
  have e4 := divL_eq lo
  have e5 := divH_eq lo
  have e6 := divZ_eq lo
  rw [Int.fdiv_eq_ediv_of_nonneg _ (by decide), e2.1, e1.1, e3, e5, e6, e4]
  rw [e1.1, e3, e5, e6, e4] at e2
  rw [e5, e3, e4] at e1
  have a1 := h1.q0; have a2 := h1.q1; have b1 := h2.q0; have b2 := h2.q1
  simp only [wrap_u64m]
  clear h1 h2 e3 e4 e5 e6
  omega

theorem mul_hi_bd {a b : Int} (ha : 0 ≤ a ∧ a < 18446744073709551616) (hb : 0 ≤ b ∧ b < 18446744073709551616) : 0 ≤ a * b / 18446744073709551616 ∧ a * b / 18446744073709551616 < 18446744073709551616 := by
  have h0 := Int.mul_nonneg ha.1 hb.1
  have h1 : a * b ≤ 18446744073709551615 * b := Int.mul_le_mul_of_nonneg_right (by omega) hb.1
  omega
def timesM (a b : Int) : Int := a * b % 2305843009213693951
theorem timesM_bd (a b : Int) : 0 ≤ timesM a b ∧ timesM a b < 2305843009213693951 := by unfold timesM; omega
/-- a text's mark -/
def markS (m : Int) (b : UInt8) : Int := (timesM m 1099511628211 + (b.toNat : Int) + 1) % 2305843009213693951
def markOf (s : List UInt8) : Int := s.foldl markS 1
theorem markS_bd (m : Int) (b : UInt8) : 0 ≤ markS m b ∧ markS m b < 2305843009213693951 := by unfold markS; omega
theorem foldl_bd (s : List UInt8) : ∀ m : Int, 0 ≤ m ∧ m < 2305843009213693951 → 0 ≤ s.foldl markS m ∧ s.foldl markS m < 2305843009213693951 := by
  induction s with
  | nil => intro m h; exact h
  | cons b s ih => intro m h; exact ih _ (markS_bd m b)
theorem markOf_bd (s : List UInt8) : 0 ≤ markOf s ∧ markOf s < 2305843009213693951 := foldl_bd s 1 (by omega)
theorem wf_i64 {n : Int} (h : (Lit.int .i64 n).wf = true) : -9223372036854775808 ≤ n ∧ n < 9223372036854775808 := by
  simp [Lit.wf, IntKind.min, IntKind.max, IntKind.signed, IntKind.bits] at h; omega
theorem wf_u64 {n : Int} (h : (Lit.int .u64 n).wf = true) : 0 ≤ n ∧ n < 18446744073709551616 := by
  simp [Lit.wf, IntKind.min, IntKind.max, IntKind.signed, IntKind.bits] at h; omega
theorem wf_u8 {n : Int} (h : (Lit.int .u8 n).wf = true) : 0 ≤ n ∧ n < 256 := by
  simp [Lit.wf, IntKind.min, IntKind.max, IntKind.signed, IntKind.bits] at h; omega
end Go.Proofs.YtngoijkcbmchdaaGreatDoor
