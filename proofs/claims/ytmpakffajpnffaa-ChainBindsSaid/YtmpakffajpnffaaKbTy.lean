import Derived.Test.YtmpakffajpnffaaKbPl
import Derived.Test.YtmpakffajpnffaaKbRul
namespace Go.Proofs.Ytmpakffajpnffaa
open Go.Tx
set_option linter.unusedVariables false
set_option linter.unusedSimpArgs false
structure HeadD where
  epoch : Int
  root : Int
  prev : Int
  at_ : Int
deriving DecidableEq
structure HHD where
  x : HeadD
  y : HeadD
deriving DecidableEq
def EHead : Elt HeadD := ⟨4, 32, fun G cs x => cs = [I x.epoch, U x.root, U x.prev, I x.at_] ∧ (-9223372036854775808 ≤ x.epoch ∧ x.epoch < 9223372036854775808) ∧ (0 ≤ x.root ∧ x.root < 18446744073709551616) ∧ (0 ≤ x.prev ∧ x.prev < 18446744073709551616) ∧ (-9223372036854775808 ≤ x.at_ ∧ x.at_ < 9223372036854775808), fun hle h => by obtain ⟨rfl, h0, h1, h2, h3⟩ := h; exact ⟨rfl, h0, h1, h2, h3⟩, fun h => by obtain ⟨rfl, h0, h1, h2, h3⟩ := h; rfl, fun h => by obtain ⟨rfl, h0, h1, h2, h3⟩ := h; exact one_of rfl⟩
def EHH : Elt HHD := ⟨8, 64, fun G cs x => cs = [I x.x.epoch, U x.x.root, U x.x.prev, I x.x.at_, I x.y.epoch, U x.y.root, U x.y.prev, I x.y.at_] ∧ (-9223372036854775808 ≤ x.x.epoch ∧ x.x.epoch < 9223372036854775808) ∧ (0 ≤ x.x.root ∧ x.x.root < 18446744073709551616) ∧ (0 ≤ x.x.prev ∧ x.x.prev < 18446744073709551616) ∧ (-9223372036854775808 ≤ x.x.at_ ∧ x.x.at_ < 9223372036854775808) ∧ (-9223372036854775808 ≤ x.y.epoch ∧ x.y.epoch < 9223372036854775808) ∧ (0 ≤ x.y.root ∧ x.y.root < 18446744073709551616) ∧ (0 ≤ x.y.prev ∧ x.y.prev < 18446744073709551616) ∧ (-9223372036854775808 ≤ x.y.at_ ∧ x.y.at_ < 9223372036854775808), fun hle h => by obtain ⟨rfl, h0, h1, h2, h3, h4, h5, h6, h7⟩ := h; exact ⟨rfl, h0, h1, h2, h3, h4, h5, h6, h7⟩, fun h => by obtain ⟨rfl, h0, h1, h2, h3, h4, h5, h6, h7⟩ := h; rfl, fun h => by obtain ⟨rfl, h0, h1, h2, h3, h4, h5, h6, h7⟩ := h; exact one_of rfl⟩
def ESlHead : Elt (List HeadD) := ⟨1, 24, fun G cs x => ∃ a0 c0, cs = [Sl a0 x.length c0] ∧ (RS EHead G a0 c0 x), fun hle h => by obtain ⟨a0, c0, rfl, h0⟩ := h; exact ⟨a0, c0, rfl, h0.mono hle⟩, fun h => by obtain ⟨a0, c0, rfl, h0⟩ := h; rfl, fun h => by obtain ⟨a0, c0, rfl, h0⟩ := h; exact one_of rfl⟩
theorem o_EHead {G : Mem} {cs : List Value} {m : Nat} (h : RdL Try.prog G [.int .i64, .int .u64, .int .u64, .int .i64] cs m) : ∃ x, EHead.R G cs x ∧ (fun _ => 0) x ≤ m := by
  obtain ⟨_, c0, _, _, rfl, _, k0, h⟩ := h
  obtain ⟨x0, rfl, w0⟩ := k0
  obtain ⟨_, c1, _, _, rfl, _, k1, h⟩ := h
  obtain ⟨x1, rfl, w1⟩ := k1
  obtain ⟨_, c2, _, _, rfl, _, k2, h⟩ := h
  obtain ⟨x2, rfl, w2⟩ := k2
  obtain ⟨_, c3, _, _, rfl, _, k3, h⟩ := h
  obtain ⟨x3, rfl, w3⟩ := k3
  have h : c3 = [] := h
  subst h
  exact ⟨(⟨x0, x1, x2, x3⟩ : HeadD), ⟨rfl, wf_i64 w0, wf_u64 w1, wf_u64 w2, wf_i64 w3⟩, Nat.zero_le _⟩
end Go.Proofs.Ytmpakffajpnffaa
