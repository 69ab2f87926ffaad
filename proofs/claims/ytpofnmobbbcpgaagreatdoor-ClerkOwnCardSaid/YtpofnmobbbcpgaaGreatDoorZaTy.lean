import Derived.Test.YtpofnmobbbcpgaaGreatDoorZaPl
import Derived.Test.YtpofnmobbbcpgaaGreatDoorZaRul
namespace Go.Proofs.YtpofnmobbbcpgaaGreatDoor
open Go.Tx
set_option linter.unusedVariables false
set_option linter.unusedSimpArgs false
structure EntD where
  name : List UInt8
  value : List UInt8
deriving DecidableEq
structure AskD where
  name : List UInt8
  value : List UInt8
  n : Int
  tag : Int
deriving DecidableEq
structure HeadD where
  epoch : Int
  root : Int
  prev : Int
  at_ : Int
deriving DecidableEq
structure QueueD where
  most : Int
  wait : List AskD
deriving DecidableEq
structure ClerkD where
  queue : QueueD
  batch : Int
  every : Int
  now : Int
  heads : List HeadD
  books : List (List EntD)
deriving DecidableEq
def EI : Elt Int := ⟨1, 8, fun G cs x => cs = [I x] ∧ (-9223372036854775808 ≤ x ∧ x < 9223372036854775808), fun hle h => by obtain ⟨rfl, h0⟩ := h; exact ⟨rfl, h0⟩, fun h => by obtain ⟨rfl, h0⟩ := h; rfl, fun h => by obtain ⟨rfl, h0⟩ := h; exact one_of rfl, [I 0], fun _ => ⟨0, ⟨rfl, (by decide)⟩⟩⟩
def ES : Elt ((List UInt8)) := ⟨1, 16, fun G cs x => cs = [Sr x] ∧ ((x).length ≤ 140737488351232), fun hle h => by obtain ⟨rfl, h0⟩ := h; exact ⟨rfl, h0⟩, fun h => by obtain ⟨rfl, h0⟩ := h; rfl, fun h => by obtain ⟨rfl, h0⟩ := h; exact one_of rfl, [Sr []], fun _ => ⟨[], ⟨rfl, (by decide)⟩⟩⟩
def EEnt : Elt EntD := ⟨2, 32, fun G cs x => cs = [Sr x.name, Sr x.value] ∧ ((x.name).length ≤ 140737488351232) ∧ ((x.value).length ≤ 140737488351232), fun hle h => by obtain ⟨rfl, h0, h1⟩ := h; exact ⟨rfl, h0, h1⟩, fun h => by obtain ⟨rfl, h0, h1⟩ := h; rfl, fun h => by obtain ⟨rfl, h0, h1⟩ := h; exact one_of rfl, [Sr [], Sr []], fun _ => ⟨(⟨[], []⟩ : EntD), ⟨rfl, (by decide), (by decide)⟩⟩⟩
def EAsk : Elt AskD := ⟨4, 48, fun G cs x => cs = [Sr x.name, Sr x.value, U x.n, U x.tag] ∧ ((x.name).length ≤ 140737488351232) ∧ ((x.value).length ≤ 140737488351232) ∧ (0 ≤ x.n ∧ x.n < 18446744073709551616) ∧ (0 ≤ x.tag ∧ x.tag < 18446744073709551616), fun hle h => by obtain ⟨rfl, h0, h1, h2, h3⟩ := h; exact ⟨rfl, h0, h1, h2, h3⟩, fun h => by obtain ⟨rfl, h0, h1, h2, h3⟩ := h; rfl, fun h => by obtain ⟨rfl, h0, h1, h2, h3⟩ := h; exact one_of rfl, [Sr [], Sr [], U 0, U 0], fun _ => ⟨(⟨[], [], 0, 0⟩ : AskD), ⟨rfl, (by decide), (by decide), (by decide), (by decide)⟩⟩⟩
def EHead : Elt HeadD := ⟨4, 32, fun G cs x => cs = [I x.epoch, U x.root, U x.prev, I x.at_] ∧ (-9223372036854775808 ≤ x.epoch ∧ x.epoch < 9223372036854775808) ∧ (0 ≤ x.root ∧ x.root < 18446744073709551616) ∧ (0 ≤ x.prev ∧ x.prev < 18446744073709551616) ∧ (-9223372036854775808 ≤ x.at_ ∧ x.at_ < 9223372036854775808), fun hle h => by obtain ⟨rfl, h0, h1, h2, h3⟩ := h; exact ⟨rfl, h0, h1, h2, h3⟩, fun h => by obtain ⟨rfl, h0, h1, h2, h3⟩ := h; rfl, fun h => by obtain ⟨rfl, h0, h1, h2, h3⟩ := h; exact one_of rfl, [I 0, U 0, U 0, I 0], fun _ => ⟨(⟨0, 0, 0, 0⟩ : HeadD), ⟨rfl, (by decide), (by decide), (by decide), (by decide)⟩⟩⟩
def EQueue : Elt QueueD := ⟨2, 32, fun G cs x => ∃ a0 c0, cs = [I x.most, Sl a0 x.wait.length c0] ∧ (-9223372036854775808 ≤ x.most ∧ x.most < 9223372036854775808) ∧ (RS EAsk G a0 c0 x.wait), fun hle h => by obtain ⟨a0, c0, rfl, h0, h1⟩ := h; exact ⟨a0, c0, rfl, h0, h1.mono hle⟩, fun h => by obtain ⟨a0, c0, rfl, h0, h1⟩ := h; rfl, fun h => by obtain ⟨a0, c0, rfl, h0, h1⟩ := h; exact one_of rfl, [I 0, Sl none 0 0], fun _ => ⟨(⟨0, []⟩ : QueueD), ⟨none, 0, rfl, (by decide), RS.nil' _ _⟩⟩⟩
def ESlEnt : Elt (List EntD) := ⟨1, 24, fun G cs x => ∃ a0 c0, cs = [Sl a0 x.length c0] ∧ (RS EEnt G a0 c0 x), fun hle h => by obtain ⟨a0, c0, rfl, h0⟩ := h; exact ⟨a0, c0, rfl, h0.mono hle⟩, fun h => by obtain ⟨a0, c0, rfl, h0⟩ := h; rfl, fun h => by obtain ⟨a0, c0, rfl, h0⟩ := h; exact one_of rfl, [Sl none 0 0], fun _ => ⟨[], ⟨none, 0, rfl, RS.nil' _ _⟩⟩⟩
def EClerk : Elt ClerkD := ⟨7, 104, fun G cs x => ∃ a0 c0 a1 c1 a2 c2, cs = [I x.queue.most, Sl a0 x.queue.wait.length c0, I x.batch, I x.every, I x.now, Sl a1 x.heads.length c1, Sl a2 x.books.length c2] ∧ (-9223372036854775808 ≤ x.queue.most ∧ x.queue.most < 9223372036854775808) ∧ (RS EAsk G a0 c0 x.queue.wait) ∧ (-9223372036854775808 ≤ x.batch ∧ x.batch < 9223372036854775808) ∧ (-9223372036854775808 ≤ x.every ∧ x.every < 9223372036854775808) ∧ (-9223372036854775808 ≤ x.now ∧ x.now < 9223372036854775808) ∧ (RS EHead G a1 c1 x.heads) ∧ (RS ESlEnt G a2 c2 x.books), fun hle h => by obtain ⟨a0, c0, a1, c1, a2, c2, rfl, h0, h1, h2, h3, h4, h5, h6⟩ := h; exact ⟨a0, c0, a1, c1, a2, c2, rfl, h0, h1.mono hle, h2, h3, h4, h5.mono hle, h6.mono hle⟩, fun h => by obtain ⟨a0, c0, a1, c1, a2, c2, rfl, h0, h1, h2, h3, h4, h5, h6⟩ := h; rfl, fun h => by obtain ⟨a0, c0, a1, c1, a2, c2, rfl, h0, h1, h2, h3, h4, h5, h6⟩ := h; exact one_of rfl, [I 0, Sl none 0 0, I 0, I 0, I 0, Sl none 0 0, Sl none 0 0], fun _ => ⟨(⟨(⟨0, []⟩ : QueueD), 0, 0, 0, [], []⟩ : ClerkD), ⟨none, 0, none, 0, none, 0, rfl, (by decide), RS.nil' _ _, (by decide), (by decide), (by decide), RS.nil' _ _, RS.nil' _ _⟩⟩⟩
def ESlHead : Elt (List HeadD) := ⟨1, 24, fun G cs x => ∃ a0 c0, cs = [Sl a0 x.length c0] ∧ (RS EHead G a0 c0 x), fun hle h => by obtain ⟨a0, c0, rfl, h0⟩ := h; exact ⟨a0, c0, rfl, h0.mono hle⟩, fun h => by obtain ⟨a0, c0, rfl, h0⟩ := h; rfl, fun h => by obtain ⟨a0, c0, rfl, h0⟩ := h; exact one_of rfl, [Sl none 0 0], fun _ => ⟨[], ⟨none, 0, rfl, RS.nil' _ _⟩⟩⟩
theorem o_EEnt {G : Mem} {cs : List Value} {m : Nat} (h : RdL Tryz.prog G [.str, .str] cs m) : ∃ x, EEnt.R G cs x ∧ (fun _ => 0) x ≤ m := by
  obtain ⟨_, c0, _, _, rfl, _, k0, h⟩ := h
  obtain ⟨x0, rfl, w0, _⟩ := k0
  obtain ⟨_, c1, _, _, rfl, _, k1, h⟩ := h
  obtain ⟨x1, rfl, w1, _⟩ := k1
  have h : c1 = [] := h
  subst h
  exact ⟨(⟨x0, x1⟩ : EntD), ⟨rfl, w0, w1⟩, Nat.zero_le _⟩
theorem o_EAsk {G : Mem} {cs : List Value} {m : Nat} (h : RdL Tryz.prog G [.str, .str, .int .u64, .int .u64] cs m) : ∃ x, EAsk.R G cs x ∧ (fun _ => 0) x ≤ m := by
  obtain ⟨_, c0, _, _, rfl, _, k0, h⟩ := h
  obtain ⟨x0, rfl, w0, _⟩ := k0
  obtain ⟨_, c1, _, _, rfl, _, k1, h⟩ := h
  obtain ⟨x1, rfl, w1, _⟩ := k1
  obtain ⟨_, c2, _, _, rfl, _, k2, h⟩ := h
  obtain ⟨x2, rfl, w2⟩ := k2
  obtain ⟨_, c3, _, _, rfl, _, k3, h⟩ := h
  obtain ⟨x3, rfl, w3⟩ := k3
  have h : c3 = [] := h
  subst h
  exact ⟨(⟨x0, x1, x2, x3⟩ : AskD), ⟨rfl, w0, w1, wf_u64 w2, wf_u64 w3⟩, Nat.zero_le _⟩
theorem o_EHead {G : Mem} {cs : List Value} {m : Nat} (h : RdL Tryz.prog G [.int .i64, .int .u64, .int .u64, .int .i64] cs m) : ∃ x, EHead.R G cs x ∧ (fun _ => 0) x ≤ m := by
  obtain ⟨_, c0, _, _, rfl, _, k0, h⟩ := h
  obtain ⟨x0, rfl, w0⟩ := k0
  obtain ⟨_, c1, _, _, rfl, _, k1, h⟩ := h
  obtain ⟨x1, rfl, w1⟩ := k1
  obtain ⟨_, c2, _, _, rfl, _, k2, h⟩ := h
  obtain ⟨x2, rfl, w2⟩ := k2
  obtain ⟨_, c3, _, _, rfl, _, k3, h⟩ := h
  obtain ⟨x3, rfl, w3⟩ := k3
  have h : c3 = [] := h
  subst h
  exact ⟨(⟨x0, x1, x2, x3⟩ : HeadD), ⟨rfl, wf_i64 w0, wf_u64 w1, wf_u64 w2, wf_i64 w3⟩, Nat.zero_le _⟩
theorem o_ESlEnt {G : Mem} {cs : List Value} {m : Nat} (h : RdL Tryz.prog G [.sl 25] cs m) : ∃ x, ESlEnt.R G cs x ∧ (fun _ => 0) x ≤ m := by
  obtain ⟨_, c0, _, _, rfl, _, k0, h⟩ := h
  obtain ⟨a0, c0_, x0, rfl, hs0, _, hcap0⟩ := rd_slice (E := EEnt) (e := 58) (size := fun _ => 0) k0 (by kernel_rfl) (by kernel_rfl) (fun cs m h => o_EEnt h) (by decide +kernel) (by kernel_rfl) (by kernel_rfl)
  have h : c0 = [] := h
  subst h
  exact ⟨x0, ⟨a0, c0_, rfl, hs0⟩, Nat.zero_le _⟩
end Go.Proofs.YtpofnmobbbcpgaaGreatDoor
