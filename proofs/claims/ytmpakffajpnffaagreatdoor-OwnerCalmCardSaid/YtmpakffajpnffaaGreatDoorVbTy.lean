import Derived.Test.YtmpakffajpnffaaGreatDoorVbPl
import Derived.Test.YtmpakffajpnffaaGreatDoorVbRul
namespace Go.Proofs.YtmpakffajpnffaaGreatDoor
open Go.Tx
set_option linter.unusedVariables false
set_option linter.unusedSimpArgs false
structure EntD where
  name : List UInt8
  value : List UInt8
deriving DecidableEq
structure AskD where
  name : List UInt8
  value : List UInt8
  n : Int
  tag : Int
deriving DecidableEq
structure HeadD where
  epoch : Int
  root : Int
  prev : Int
  at_ : Int
deriving DecidableEq
structure IID where
  x : Int
  y : Int
deriving DecidableEq
structure ProofD where
  name : List UInt8
  entries : List EntD
  sides : List Int
deriving DecidableEq
structure ReplyD where
  head : HeadD
  proof : ProofD
deriving DecidableEq
structure QueueD where
  most : Int
  wait : List AskD
deriving DecidableEq
structure ClerkD where
  queue : QueueD
  batch : Int
  every : Int
  now : Int
  heads : List HeadD
  books : List (List EntD)
deriving DecidableEq
structure OwnerD where
  name : List UInt8
  key : Int
  head : HeadD
  wanted : List (List UInt8)
  had : Int
deriving DecidableEq
def EI : Elt Int := ⟨1, 8, fun G cs x => cs = [I x] ∧ (-9223372036854775808 ≤ x ∧ x < 9223372036854775808), fun hle h => by obtain ⟨rfl, h0⟩ := h; exact ⟨rfl, h0⟩, fun h => by obtain ⟨rfl, h0⟩ := h; rfl, fun h => by obtain ⟨rfl, h0⟩ := h; exact one_of rfl⟩
def EU : Elt Int := ⟨1, 8, fun G cs x => cs = [U x] ∧ (0 ≤ x ∧ x < 18446744073709551616), fun hle h => by obtain ⟨rfl, h0⟩ := h; exact ⟨rfl, h0⟩, fun h => by obtain ⟨rfl, h0⟩ := h; rfl, fun h => by obtain ⟨rfl, h0⟩ := h; exact one_of rfl⟩
def ES : Elt ((List UInt8)) := ⟨1, 16, fun G cs x => cs = [Sr x] ∧ ((x).length ≤ 140737488351232), fun hle h => by obtain ⟨rfl, h0⟩ := h; exact ⟨rfl, h0⟩, fun h => by obtain ⟨rfl, h0⟩ := h; rfl, fun h => by obtain ⟨rfl, h0⟩ := h; exact one_of rfl⟩
def EEnt : Elt EntD := ⟨2, 32, fun G cs x => cs = [Sr x.name, Sr x.value] ∧ ((x.name).length ≤ 140737488351232) ∧ ((x.value).length ≤ 140737488351232), fun hle h => by obtain ⟨rfl, h0, h1⟩ := h; exact ⟨rfl, h0, h1⟩, fun h => by obtain ⟨rfl, h0, h1⟩ := h; rfl, fun h => by obtain ⟨rfl, h0, h1⟩ := h; exact one_of rfl⟩
def EAsk : Elt AskD := ⟨4, 48, fun G cs x => cs = [Sr x.name, Sr x.value, U x.n, U x.tag] ∧ ((x.name).length ≤ 140737488351232) ∧ ((x.value).length ≤ 140737488351232) ∧ (0 ≤ x.n ∧ x.n < 18446744073709551616) ∧ (0 ≤ x.tag ∧ x.tag < 18446744073709551616), fun hle h => by obtain ⟨rfl, h0, h1, h2, h3⟩ := h; exact ⟨rfl, h0, h1, h2, h3⟩, fun h => by obtain ⟨rfl, h0, h1, h2, h3⟩ := h; rfl, fun h => by obtain ⟨rfl, h0, h1, h2, h3⟩ := h; exact one_of rfl⟩
def EHead : Elt HeadD := ⟨4, 32, fun G cs x => cs = [I x.epoch, U x.root, U x.prev, I x.at_] ∧ (-9223372036854775808 ≤ x.epoch ∧ x.epoch < 9223372036854775808) ∧ (0 ≤ x.root ∧ x.root < 18446744073709551616) ∧ (0 ≤ x.prev ∧ x.prev < 18446744073709551616) ∧ (-9223372036854775808 ≤ x.at_ ∧ x.at_ < 9223372036854775808), fun hle h => by obtain ⟨rfl, h0, h1, h2, h3⟩ := h; exact ⟨rfl, h0, h1, h2, h3⟩, fun h => by obtain ⟨rfl, h0, h1, h2, h3⟩ := h; rfl, fun h => by obtain ⟨rfl, h0, h1, h2, h3⟩ := h; exact one_of rfl⟩
def EII : Elt IID := ⟨2, 16, fun G cs x => cs = [I x.x, I x.y] ∧ (-9223372036854775808 ≤ x.x ∧ x.x < 9223372036854775808) ∧ (-9223372036854775808 ≤ x.y ∧ x.y < 9223372036854775808), fun hle h => by obtain ⟨rfl, h0, h1⟩ := h; exact ⟨rfl, h0, h1⟩, fun h => by obtain ⟨rfl, h0, h1⟩ := h; rfl, fun h => by obtain ⟨rfl, h0, h1⟩ := h; exact one_of rfl⟩
def EProof : Elt ProofD := ⟨3, 64, fun G cs x => ∃ a0 c0 a1 c1, cs = [Sr x.name, Sl a0 x.entries.length c0, Sl a1 x.sides.length c1] ∧ ((x.name).length ≤ 140737488351232) ∧ (RS EEnt G a0 c0 x.entries) ∧ (RS EU G a1 c1 x.sides), fun hle h => by obtain ⟨a0, c0, a1, c1, rfl, h0, h1, h2⟩ := h; exact ⟨a0, c0, a1, c1, rfl, h0, h1.mono hle, h2.mono hle⟩, fun h => by obtain ⟨a0, c0, a1, c1, rfl, h0, h1, h2⟩ := h; rfl, fun h => by obtain ⟨a0, c0, a1, c1, rfl, h0, h1, h2⟩ := h; exact one_of rfl⟩
def EReply : Elt ReplyD := ⟨7, 96, fun G cs x => ∃ a0 c0 a1 c1, cs = [I x.head.epoch, U x.head.root, U x.head.prev, I x.head.at_, Sr x.proof.name, Sl a0 x.proof.entries.length c0, Sl a1 x.proof.sides.length c1] ∧ (-9223372036854775808 ≤ x.head.epoch ∧ x.head.epoch < 9223372036854775808) ∧ (0 ≤ x.head.root ∧ x.head.root < 18446744073709551616) ∧ (0 ≤ x.head.prev ∧ x.head.prev < 18446744073709551616) ∧ (-9223372036854775808 ≤ x.head.at_ ∧ x.head.at_ < 9223372036854775808) ∧ ((x.proof.name).length ≤ 140737488351232) ∧ (RS EEnt G a0 c0 x.proof.entries) ∧ (RS EU G a1 c1 x.proof.sides), fun hle h => by obtain ⟨a0, c0, a1, c1, rfl, h0, h1, h2, h3, h4, h5, h6⟩ := h; exact ⟨a0, c0, a1, c1, rfl, h0, h1, h2, h3, h4, h5.mono hle, h6.mono hle⟩, fun h => by obtain ⟨a0, c0, a1, c1, rfl, h0, h1, h2, h3, h4, h5, h6⟩ := h; rfl, fun h => by obtain ⟨a0, c0, a1, c1, rfl, h0, h1, h2, h3, h4, h5, h6⟩ := h; exact one_of rfl⟩
def EQueue : Elt QueueD := ⟨2, 32, fun G cs x => ∃ a0 c0, cs = [I x.most, Sl a0 x.wait.length c0] ∧ (-9223372036854775808 ≤ x.most ∧ x.most < 9223372036854775808) ∧ (RS EAsk G a0 c0 x.wait), fun hle h => by obtain ⟨a0, c0, rfl, h0, h1⟩ := h; exact ⟨a0, c0, rfl, h0, h1.mono hle⟩, fun h => by obtain ⟨a0, c0, rfl, h0, h1⟩ := h; rfl, fun h => by obtain ⟨a0, c0, rfl, h0, h1⟩ := h; exact one_of rfl⟩
def ESlEnt : Elt (List EntD) := ⟨1, 24, fun G cs x => ∃ a0 c0, cs = [Sl a0 x.length c0] ∧ (RS EEnt G a0 c0 x), fun hle h => by obtain ⟨a0, c0, rfl, h0⟩ := h; exact ⟨a0, c0, rfl, h0.mono hle⟩, fun h => by obtain ⟨a0, c0, rfl, h0⟩ := h; rfl, fun h => by obtain ⟨a0, c0, rfl, h0⟩ := h; exact one_of rfl⟩
def EClerk : Elt ClerkD := ⟨7, 104, fun G cs x => ∃ a0 c0 a1 c1 a2 c2, cs = [I x.queue.most, Sl a0 x.queue.wait.length c0, I x.batch, I x.every, I x.now, Sl a1 x.heads.length c1, Sl a2 x.books.length c2] ∧ (-9223372036854775808 ≤ x.queue.most ∧ x.queue.most < 9223372036854775808) ∧ (RS EAsk G a0 c0 x.queue.wait) ∧ (-9223372036854775808 ≤ x.batch ∧ x.batch < 9223372036854775808) ∧ (-9223372036854775808 ≤ x.every ∧ x.every < 9223372036854775808) ∧ (-9223372036854775808 ≤ x.now ∧ x.now < 9223372036854775808) ∧ (RS EHead G a1 c1 x.heads) ∧ (RS ESlEnt G a2 c2 x.books), fun hle h => by obtain ⟨a0, c0, a1, c1, a2, c2, rfl, h0, h1, h2, h3, h4, h5, h6⟩ := h; exact ⟨a0, c0, a1, c1, a2, c2, rfl, h0, h1.mono hle, h2, h3, h4, h5.mono hle, h6.mono hle⟩, fun h => by obtain ⟨a0, c0, a1, c1, a2, c2, rfl, h0, h1, h2, h3, h4, h5, h6⟩ := h; rfl, fun h => by obtain ⟨a0, c0, a1, c1, a2, c2, rfl, h0, h1, h2, h3, h4, h5, h6⟩ := h; exact one_of rfl⟩
def EOwner : Elt OwnerD := ⟨8, 88, fun G cs x => ∃ a0 c0, cs = [Sr x.name, U x.key, I x.head.epoch, U x.head.root, U x.head.prev, I x.head.at_, Sl a0 x.wanted.length c0, I x.had] ∧ ((x.name).length ≤ 140737488351232) ∧ (0 ≤ x.key ∧ x.key < 18446744073709551616) ∧ (-9223372036854775808 ≤ x.head.epoch ∧ x.head.epoch < 9223372036854775808) ∧ (0 ≤ x.head.root ∧ x.head.root < 18446744073709551616) ∧ (0 ≤ x.head.prev ∧ x.head.prev < 18446744073709551616) ∧ (-9223372036854775808 ≤ x.head.at_ ∧ x.head.at_ < 9223372036854775808) ∧ (RS ES G a0 c0 x.wanted) ∧ (-9223372036854775808 ≤ x.had ∧ x.had < 9223372036854775808), fun hle h => by obtain ⟨a0, c0, rfl, h0, h1, h2, h3, h4, h5, h6, h7⟩ := h; exact ⟨a0, c0, rfl, h0, h1, h2, h3, h4, h5, h6.mono hle, h7⟩, fun h => by obtain ⟨a0, c0, rfl, h0, h1, h2, h3, h4, h5, h6, h7⟩ := h; rfl, fun h => by obtain ⟨a0, c0, rfl, h0, h1, h2, h3, h4, h5, h6, h7⟩ := h; exact one_of rfl⟩
def ESlHead : Elt (List HeadD) := ⟨1, 24, fun G cs x => ∃ a0 c0, cs = [Sl a0 x.length c0] ∧ (RS EHead G a0 c0 x), fun hle h => by obtain ⟨a0, c0, rfl, h0⟩ := h; exact ⟨a0, c0, rfl, h0.mono hle⟩, fun h => by obtain ⟨a0, c0, rfl, h0⟩ := h; rfl, fun h => by obtain ⟨a0, c0, rfl, h0⟩ := h; exact one_of rfl⟩
theorem o_ES {G : Mem} {cs : List Value} {m : Nat} (h : RdL Tryz.prog G [.str] cs m) : ∃ x, ES.R G cs x ∧ (fun _ => 0) x ≤ m := by
  obtain ⟨_, c0, _, _, rfl, _, k0, h⟩ := h
  obtain ⟨x0, rfl, w0, _⟩ := k0
  have h : c0 = [] := h
  subst h
  exact ⟨x0, ⟨rfl, w0⟩, Nat.zero_le _⟩
theorem o_EII {G : Mem} {cs : List Value} {m : Nat} (h : RdL Tryz.prog G [.int .i64, .int .i64] cs m) : ∃ x, EII.R G cs x ∧ (fun _ => 0) x ≤ m := by
  obtain ⟨_, c0, _, _, rfl, _, k0, h⟩ := h
  obtain ⟨x0, rfl, w0⟩ := k0
  obtain ⟨_, c1, _, _, rfl, _, k1, h⟩ := h
  obtain ⟨x1, rfl, w1⟩ := k1
  have h : c1 = [] := h
  subst h
  exact ⟨(⟨x0, x1⟩ : IID), ⟨rfl, wf_i64 w0, wf_i64 w1⟩, Nat.zero_le _⟩
end Go.Proofs.YtmpakffajpnffaaGreatDoor
