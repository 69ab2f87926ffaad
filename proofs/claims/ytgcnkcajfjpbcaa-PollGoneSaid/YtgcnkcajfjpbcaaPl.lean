/- Plain laws: numbers as bytes. -/
import Derived.Test.YtgcnkcajfjpbcaaLaw
set_option linter.unusedVariables false
set_option linter.unusedSimpArgs false
namespace Go.Proofs.Ytgcnkcajfjpbcaa
open Go.Tx
theorem foldl_take {α β : Type} {f : β → α → β} {z : β} {l : List α} {i : Nat} {x : α} (h : l[i]? = some x) : (l.take (i + 1)).foldl f z = f ((l.take i).foldl f z) x := by
  rw [List.take_add_one, h]; simp
/-- a number's bytes -/
def numL (n : Int) : List Int := [IntKind.u8.wrap (n.fdiv (2 ^ 56)), IntKind.u8.wrap (n.fdiv (2 ^ 48)), IntKind.u8.wrap (n.fdiv (2 ^ 40)), IntKind.u8.wrap (n.fdiv (2 ^ 32)), IntKind.u8.wrap (n.fdiv (2 ^ 24)), IntKind.u8.wrap (n.fdiv (2 ^ 16)), IntKind.u8.wrap (n.fdiv (2 ^ 8)), IntKind.u8.wrap (n.fdiv (2 ^ 0))]
def numB (n : Int) : List UInt8 := (numL n).map fun x => UInt8.ofNat x.toNat
def readS (n : Int) (b : UInt8) : Int := IntKind.u64.wrap ((BitVec.ofInt 64 (IntKind.u64.wrap (n * 2 ^ 8)) ||| BitVec.ofInt 64 (IntKind.u64.wrap (b.toNat : Int))).toNat : Int)
def readN (l : List UInt8) : Int := l.foldl readS 0
def readNum (l : List UInt8) : Int × Int := if l.length = 8 then (readN l, 0) else (0, 3)
@[simp] theorem numB_length (n : Int) : (numB n).length = 8 := by simp [numB, numL]
theorem wrap_u64 {x : Int} (h0 : 0 ≤ x) (h1 : x < 18446744073709551616) : IntKind.u64.wrap x = x := IntWalk.u64_in _ (by omega)
theorem wrap_u8 (x : Int) : IntKind.u8.wrap x = x % 256 := by
  simp [IntKind.wrap, IntKind.signed, IntKind.bits]
theorem wrap_i64 {x : Int} (h0 : -9223372036854775808 ≤ x) (h1 : x < 9223372036854775808) : IntKind.i64.wrap x = x := IntWalk.i64_in _ (by omega)
theorem readS_eq {n : Int} {b : UInt8} (h0 : 0 ≤ n) (h1 : n < 72057594037927936) : readS n b = n * 256 + (b.toNat : Int) := by
  obtain ⟨m, rfl⟩ := Int.eq_ofNat_of_zero_le h0
  have hb := b.toNat_lt
  unfold readS
  rw [wrap_u64 (x := (m : Int) * 2 ^ 8) (by omega) (by omega), wrap_u64 (x := (b.toNat : Int)) (by omega) (by omega)]
  have e1 : ((m : Int) * 2 ^ 8) = ((m * 256 : Nat) : Int) := by omega
  rw [e1, BitVec.toNat_or, BitVec.ofInt_natCast, BitVec.ofInt_natCast, BitVec.toNat_ofNat, BitVec.toNat_ofNat, Nat.mod_eq_of_lt (by omega), Nat.mod_eq_of_lt (by omega)]
  have e2 : m * 256 ||| b.toNat = m * 256 + b.toNat := by
    have := Nat.shiftLeft_add_eq_or_of_lt (i := 8) (b := b.toNat) (by omega) m
    rw [Nat.shiftLeft_eq] at this
    exact this.symm
  rw [e2, wrap_u64 (by omega) (by omega)]
  omega
theorem byte_of (n : Int) : ((UInt8.ofNat (IntKind.u8.wrap n).toNat).toNat : Int) = n % 256 := by
  rw [wrap_u8, UInt8.toNat_ofNat']
  have h0 := Int.emod_nonneg n (show (256 : Int) ≠ 0 by omega)
  have h1 := Int.emod_lt_of_pos n (show (0 : Int) < 256 by omega)
  rw [Nat.mod_eq_of_lt (by omega)]
  omega
theorem readN_numB {n : Int} (h0 : 0 ≤ n) (h1 : n < 18446744073709551616) : readN (numB n) = n := by
  simp only [readN, numB, numL, List.map_cons, List.map_nil, List.foldl_cons, List.foldl_nil]
  have fd : ∀ k : Nat, n.fdiv (2 ^ k) = n / (2 ^ k : Int) := fun k => Int.fdiv_eq_ediv_of_nonneg _ (by exact Int.le_of_lt (Int.pow_pos (by omega)))
  simp only [fd]
  have t : ∀ (a c : Int), 0 ≤ a → a < 72057594037927936 → a = c / 256 → readS a (UInt8.ofNat (IntKind.u8.wrap c).toNat) = c := by
    intro a c ha hb hc
    rw [readS_eq ha hb, byte_of]
    omega
  rw [t 0 (n / 2 ^ 56) (by omega) (by omega) (by omega), t (n / 2 ^ 56) (n / 2 ^ 48) (by omega) (by omega) (by omega), t (n / 2 ^ 48) (n / 2 ^ 40) (by omega) (by omega) (by omega),
    t (n / 2 ^ 40) (n / 2 ^ 32) (by omega) (by omega) (by omega), t (n / 2 ^ 32) (n / 2 ^ 24) (by omega) (by omega) (by omega), t (n / 2 ^ 24) (n / 2 ^ 16) (by omega) (by omega) (by omega),
    t (n / 2 ^ 16) (n / 2 ^ 8) (by omega) (by omega) (by omega), t (n / 2 ^ 8) (n / 2 ^ 0) (by omega) (by omega) (by omega)]
  omega
theorem readN_bound (l : List UInt8) (h : l.length = 8) : 0 ≤ readN l ∧ readN l < 18446744073709551616 ∧ numB (readN l) = l := by
  match l, h with
  | [a, b, c, d, e, f, g, i], _ =>
    have ha := a.toNat_lt; have hb := b.toNat_lt; have hc := c.toNat_lt; have hd := d.toNat_lt
    have he := e.toNat_lt; have hf := f.toNat_lt; have hg := g.toNat_lt; have hi := i.toNat_lt
    simp only [readN, List.foldl_cons, List.foldl_nil]
    rw [readS_eq (n := 0) (by omega) (by omega)]
    rw [readS_eq (b := b) (by omega) (by omega), readS_eq (b := c) (by omega) (by omega), readS_eq (b := d) (by omega) (by omega), readS_eq (b := e) (by omega) (by omega), readS_eq (b := f) (by omega) (by omega), readS_eq (b := g) (by omega) (by omega), readS_eq (b := i) (by omega) (by omega)]
    refine ⟨by omega, by omega, ?_⟩
    have fd : ∀ (n : Int) (k : Nat), n.fdiv (2 ^ k) = n / (2 ^ k : Int) := fun n k => Int.fdiv_eq_ediv_of_nonneg _ (by exact Int.le_of_lt (Int.pow_pos (by omega)))
    have key : ∀ (n : Int) (x : UInt8), n % 256 = (x.toNat : Int) → UInt8.ofNat (IntKind.u8.wrap n).toNat = x := fun n x hx => by
      apply UInt8.toNat.inj
      have := byte_of n
      omega
    simp only [numB, numL, fd, List.map_cons, List.map_nil, List.cons.injEq, and_true]
    refine ⟨key _ _ ?_, key _ _ ?_, key _ _ ?_, key _ _ ?_, key _ _ ?_, key _ _ ?_, key _ _ ?_, key _ _ ?_⟩ <;> omega

/-! ### Elements; searching -/
def EErr : Elt Int := ⟨1, 8, fun _ cs x => cs = [I x], fun _ h => h, fun h => by rw [h]; rfl, fun h u hu => by rw [h] at hu; cases List.mem_singleton.1 hu; rfl⟩
def idxF {α : Type} (p : α → Bool) (l : List α) : Int := match l.findIdx? p with | some i => (i : Int) | none => -1
theorem idxF_some {α : Type} {p : α → Bool} {l : List α} {i : Nat} {x : α} (h : l[i]? = some x) (hp : p x = true) (hi : (l.take i).any p = false) : idxF p l = (i : Int) := by
  have : l.findIdx? p = some i := by
    rw [List.findIdx?_eq_some_iff_getElem]
    obtain ⟨h1, h2⟩ := List.getElem?_eq_some_iff.1 h
    refine ⟨h1, by rw [h2]; exact hp, fun j hj => ?_⟩
    have h3 : (l.take i)[j]? = some l[j] := by rw [List.getElem?_take, if_pos hj, List.getElem?_eq_getElem (by omega)]
    have := List.any_eq_false.1 hi _ (List.mem_of_getElem? h3)
    simpa using this
  simp [idxF, this]
theorem any_take {α : Type} {p : α → Bool} {l : List α} {i : Nat} {x : α} (h : l[i]? = some x) (hp : p x = false) (hi : (l.take i).any p = false) : (l.take (i + 1)).any p = false := by
  rw [List.take_add_one, h]; simp [hi, hp]
theorem idxF_none {α : Type} {p : α → Bool} {l : List α} (hi : l.any p = false) : idxF p l = -1 := by
  have : l.findIdx? p = none := by
    rw [List.findIdx?_eq_none_iff]
    intro x hx
    simpa using List.any_eq_false.1 hi x hx
  simp [idxF, this]
theorem idxF_any {α : Type} (p : α → Bool) (l : List α) : decide (idxF p l ≥ 0) = l.any p := by
  cases h : l.any p with
  | false => rw [idxF_none h]; rfl
  | true =>
    have : (l.findIdx? p).isSome := by rw [List.findIdx?_isSome]; exact h
    obtain ⟨i, hi⟩ := Option.isSome_iff_exists.1 this
    simp [idxF, hi]
end Go.Proofs.Ytgcnkcajfjpbcaa
