import Derived.Test.YtmpakffajpnffaaGreatDoorCfPl
import Derived.Test.YtmpakffajpnffaaGreatDoorCfRul
namespace Go.Proofs.YtmpakffajpnffaaGreatDoor
open Go.Tx
set_option linter.unusedVariables false
set_option linter.unusedSimpArgs false
structure EntD where
  name : List UInt8
  value : List UInt8
deriving DecidableEq
structure HeadD where
  epoch : Int
  root : Int
  prev : Int
  at_ : Int
deriving DecidableEq
structure ProofD where
  name : List UInt8
  entries : List EntD
  sides : List Int
deriving DecidableEq
def EI : Elt Int := ⟨1, 8, fun G cs x => cs = [I x] ∧ (-9223372036854775808 ≤ x ∧ x < 9223372036854775808), fun hle h => by obtain ⟨rfl, h0⟩ := h; exact ⟨rfl, h0⟩, fun h => by obtain ⟨rfl, h0⟩ := h; rfl, fun h => by obtain ⟨rfl, h0⟩ := h; exact one_of rfl⟩
def EU : Elt Int := ⟨1, 8, fun G cs x => cs = [U x] ∧ (0 ≤ x ∧ x < 18446744073709551616), fun hle h => by obtain ⟨rfl, h0⟩ := h; exact ⟨rfl, h0⟩, fun h => by obtain ⟨rfl, h0⟩ := h; rfl, fun h => by obtain ⟨rfl, h0⟩ := h; exact one_of rfl⟩
def ES : Elt ((List UInt8)) := ⟨1, 16, fun G cs x => cs = [Sr x] ∧ ((x).length ≤ 140737488351232), fun hle h => by obtain ⟨rfl, h0⟩ := h; exact ⟨rfl, h0⟩, fun h => by obtain ⟨rfl, h0⟩ := h; rfl, fun h => by obtain ⟨rfl, h0⟩ := h; exact one_of rfl⟩
def EEnt : Elt EntD := ⟨2, 32, fun G cs x => cs = [Sr x.name, Sr x.value] ∧ ((x.name).length ≤ 140737488351232) ∧ ((x.value).length ≤ 140737488351232), fun hle h => by obtain ⟨rfl, h0, h1⟩ := h; exact ⟨rfl, h0, h1⟩, fun h => by obtain ⟨rfl, h0, h1⟩ := h; rfl, fun h => by obtain ⟨rfl, h0, h1⟩ := h; exact one_of rfl⟩
def EProof : Elt ProofD := ⟨3, 64, fun G cs x => ∃ a0 c0 a1 c1, cs = [Sr x.name, Sl a0 x.entries.length c0, Sl a1 x.sides.length c1] ∧ ((x.name).length ≤ 140737488351232) ∧ (RS EEnt G a0 c0 x.entries) ∧ (RS EU G a1 c1 x.sides), fun hle h => by obtain ⟨a0, c0, a1, c1, rfl, h0, h1, h2⟩ := h; exact ⟨a0, c0, a1, c1, rfl, h0, h1.mono hle, h2.mono hle⟩, fun h => by obtain ⟨a0, c0, a1, c1, rfl, h0, h1, h2⟩ := h; rfl, fun h => by obtain ⟨a0, c0, a1, c1, rfl, h0, h1, h2⟩ := h; exact one_of rfl⟩
theorem o_EEnt {G : Mem} {cs : List Value} {m : Nat} (h : RdL Tryz.prog G [.str, .str] cs m) : ∃ x, EEnt.R G cs x ∧ (fun _ => 0) x ≤ m := by
  obtain ⟨_, c0, _, _, rfl, _, k0, h⟩ := h
  obtain ⟨x0, rfl, w0, _⟩ := k0
  obtain ⟨_, c1, _, _, rfl, _, k1, h⟩ := h
  obtain ⟨x1, rfl, w1, _⟩ := k1
  have h : c1 = [] := h
  subst h
  exact ⟨(⟨x0, x1⟩ : EntD), ⟨rfl, w0, w1⟩, Nat.zero_le _⟩
end Go.Proofs.YtmpakffajpnffaaGreatDoor
