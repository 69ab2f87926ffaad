import Derived.Test.YtngoijkcbmchdaaGreatDoorPl
import Derived.Test.YtngoijkcbmchdaaGreatDoorRul
namespace Go.Proofs.YtngoijkcbmchdaaGreatDoor
open Go.Tx
set_option linter.unusedVariables false
set_option linter.unusedSimpArgs false
abbrev ConLP (k : FuncId) (args : Array Value) (G : Mem) (L : List (List Seg)) (p : Value → Mem → List (List Seg) → Prop) : Prop := ConL Tryz.prog k args G L p
structure EntD where
  name : List UInt8
  value : List UInt8
deriving DecidableEq
structure AskD where
  name : List UInt8
  value : List UInt8
  n : Int
  tag : Int
deriving DecidableEq
structure HeadD where
  epoch : Int
  root : Int
  prev : Int
  at_ : Int
deriving DecidableEq
structure PollD where
  least : Int
  most : Int
  lost : Int
  gap : Int
  next : Int
  asked : Int
deriving DecidableEq
structure FoundD where
  a : Int
  b : Int
  epoch : Int
deriving DecidableEq
structure EventD where
  kind : Int
  who : Int
  n : Int
  at_ : Int
deriving DecidableEq
structure IID where
  x : Int
  y : Int
deriving DecidableEq
structure ProofD where
  name : List UInt8
  entries : List EntD
  sides : List Int
deriving DecidableEq
structure ReplyD where
  head : HeadD
  proof : ProofD
deriving DecidableEq
structure QueueD where
  most : Int
  wait : List AskD
deriving DecidableEq
structure ClerkD where
  queue : QueueD
  batch : Int
  every : Int
  now : Int
  heads : List HeadD
  books : List (List EntD)
deriving DecidableEq
structure OwnerD where
  name : List UInt8
  key : Int
  head : HeadD
  wanted : List (List UInt8)
  had : Int
deriving DecidableEq
structure LetterD where
  to_ : Int
  from_ : Int
  since : Int
  due : Int
  heads : List HeadD
  reply : ReplyD
deriving DecidableEq
structure NetD where
  now : Int
  way : List LetterD
deriving DecidableEq
structure SetupD where
  names : List (List UInt8)
  keys : List Int
  most : Int
  batch : Int
  every : Int
  least : Int
  top : Int
  lost : Int
  reach : Int
deriving DecidableEq
structure DeedD where
  kind : Int
  who : Int
  value : List UInt8
  fates : List Int
  letter : LetterD
deriving DecidableEq
structure TownD where
  clerk : ClerkD
  owners : List OwnerD
  polls : List PollD
  net : NetD
deriving DecidableEq
structure HHD where
  x : HeadD
  y : HeadD
deriving DecidableEq
def EI : Elt Int := ⟨1, 8, fun G cs x => cs = [I x] ∧ (-9223372036854775808 ≤ x ∧ x < 9223372036854775808), fun hle h => by obtain ⟨rfl, h0⟩ := h; exact ⟨rfl, h0⟩, fun h => by obtain ⟨rfl, h0⟩ := h; rfl, fun h => by obtain ⟨rfl, h0⟩ := h; exact one_of rfl, [I 0], fun _ => ⟨0, ⟨rfl, (by decide)⟩⟩⟩
def EU : Elt Int := ⟨1, 8, fun G cs x => cs = [U x] ∧ (0 ≤ x ∧ x < 18446744073709551616), fun hle h => by obtain ⟨rfl, h0⟩ := h; exact ⟨rfl, h0⟩, fun h => by obtain ⟨rfl, h0⟩ := h; rfl, fun h => by obtain ⟨rfl, h0⟩ := h; exact one_of rfl, [U 0], fun _ => ⟨0, ⟨rfl, (by decide)⟩⟩⟩
def EY : Elt Int := ⟨1, 1, fun G cs x => cs = [Y x] ∧ (0 ≤ x ∧ x < 256), fun hle h => by obtain ⟨rfl, h0⟩ := h; exact ⟨rfl, h0⟩, fun h => by obtain ⟨rfl, h0⟩ := h; rfl, fun h => by obtain ⟨rfl, h0⟩ := h; exact one_of rfl, [Y 0], fun _ => ⟨0, ⟨rfl, (by decide)⟩⟩⟩
def ES : Elt ((List UInt8)) := ⟨1, 16, fun G cs x => cs = [Sr x] ∧ ((x).length ≤ 140737488351232), fun hle h => by obtain ⟨rfl, h0⟩ := h; exact ⟨rfl, h0⟩, fun h => by obtain ⟨rfl, h0⟩ := h; rfl, fun h => by obtain ⟨rfl, h0⟩ := h; exact one_of rfl, [Sr []], fun _ => ⟨[], ⟨rfl, (by decide)⟩⟩⟩
def EB : Elt Bool := ⟨1, 1, fun G cs x => cs = [Bo x], fun hle h => by obtain rfl := h; exact rfl, fun h => by obtain rfl := h; rfl, fun h => by obtain rfl := h; exact one_of rfl, [Bo false], fun _ => ⟨false, rfl⟩⟩
def EEnt : Elt EntD := ⟨2, 32, fun G cs x => cs = [Sr x.name, Sr x.value] ∧ ((x.name).length ≤ 140737488351232) ∧ ((x.value).length ≤ 140737488351232), fun hle h => by obtain ⟨rfl, h0, h1⟩ := h; exact ⟨rfl, h0, h1⟩, fun h => by obtain ⟨rfl, h0, h1⟩ := h; rfl, fun h => by obtain ⟨rfl, h0, h1⟩ := h; exact one_of rfl, [Sr [], Sr []], fun _ => ⟨(⟨[], []⟩ : EntD), ⟨rfl, (by decide), (by decide)⟩⟩⟩
def EAsk : Elt AskD := ⟨4, 48, fun G cs x => cs = [Sr x.name, Sr x.value, U x.n, U x.tag] ∧ ((x.name).length ≤ 140737488351232) ∧ ((x.value).length ≤ 140737488351232) ∧ (0 ≤ x.n ∧ x.n < 18446744073709551616) ∧ (0 ≤ x.tag ∧ x.tag < 18446744073709551616), fun hle h => by obtain ⟨rfl, h0, h1, h2, h3⟩ := h; exact ⟨rfl, h0, h1, h2, h3⟩, fun h => by obtain ⟨rfl, h0, h1, h2, h3⟩ := h; rfl, fun h => by obtain ⟨rfl, h0, h1, h2, h3⟩ := h; exact one_of rfl, [Sr [], Sr [], U 0, U 0], fun _ => ⟨(⟨[], [], 0, 0⟩ : AskD), ⟨rfl, (by decide), (by decide), (by decide), (by decide)⟩⟩⟩
def EHead : Elt HeadD := ⟨4, 32, fun G cs x => cs = [I x.epoch, U x.root, U x.prev, I x.at_] ∧ (-9223372036854775808 ≤ x.epoch ∧ x.epoch < 9223372036854775808) ∧ (0 ≤ x.root ∧ x.root < 18446744073709551616) ∧ (0 ≤ x.prev ∧ x.prev < 18446744073709551616) ∧ (-9223372036854775808 ≤ x.at_ ∧ x.at_ < 9223372036854775808), fun hle h => by obtain ⟨rfl, h0, h1, h2, h3⟩ := h; exact ⟨rfl, h0, h1, h2, h3⟩, fun h => by obtain ⟨rfl, h0, h1, h2, h3⟩ := h; rfl, fun h => by obtain ⟨rfl, h0, h1, h2, h3⟩ := h; exact one_of rfl, [I 0, U 0, U 0, I 0], fun _ => ⟨(⟨0, 0, 0, 0⟩ : HeadD), ⟨rfl, (by decide), (by decide), (by decide), (by decide)⟩⟩⟩
def EPoll : Elt PollD := ⟨6, 48, fun G cs x => cs = [I x.least, I x.most, I x.lost, I x.gap, I x.next, I x.asked] ∧ (-9223372036854775808 ≤ x.least ∧ x.least < 9223372036854775808) ∧ (-9223372036854775808 ≤ x.most ∧ x.most < 9223372036854775808) ∧ (-9223372036854775808 ≤ x.lost ∧ x.lost < 9223372036854775808) ∧ (-9223372036854775808 ≤ x.gap ∧ x.gap < 9223372036854775808) ∧ (-9223372036854775808 ≤ x.next ∧ x.next < 9223372036854775808) ∧ (-9223372036854775808 ≤ x.asked ∧ x.asked < 9223372036854775808), fun hle h => by obtain ⟨rfl, h0, h1, h2, h3, h4, h5⟩ := h; exact ⟨rfl, h0, h1, h2, h3, h4, h5⟩, fun h => by obtain ⟨rfl, h0, h1, h2, h3, h4, h5⟩ := h; rfl, fun h => by obtain ⟨rfl, h0, h1, h2, h3, h4, h5⟩ := h; exact one_of rfl, [I 0, I 0, I 0, I 0, I 0, I 0], fun _ => ⟨(⟨0, 0, 0, 0, 0, 0⟩ : PollD), ⟨rfl, (by decide), (by decide), (by decide), (by decide), (by decide), (by decide)⟩⟩⟩
def EFound : Elt FoundD := ⟨3, 24, fun G cs x => cs = [I x.a, I x.b, I x.epoch] ∧ (-9223372036854775808 ≤ x.a ∧ x.a < 9223372036854775808) ∧ (-9223372036854775808 ≤ x.b ∧ x.b < 9223372036854775808) ∧ (-9223372036854775808 ≤ x.epoch ∧ x.epoch < 9223372036854775808), fun hle h => by obtain ⟨rfl, h0, h1, h2⟩ := h; exact ⟨rfl, h0, h1, h2⟩, fun h => by obtain ⟨rfl, h0, h1, h2⟩ := h; rfl, fun h => by obtain ⟨rfl, h0, h1, h2⟩ := h; exact one_of rfl, [I 0, I 0, I 0], fun _ => ⟨(⟨0, 0, 0⟩ : FoundD), ⟨rfl, (by decide), (by decide), (by decide)⟩⟩⟩
def EEvent : Elt EventD := ⟨4, 32, fun G cs x => cs = [I x.kind, I x.who, I x.n, I x.at_] ∧ (-9223372036854775808 ≤ x.kind ∧ x.kind < 9223372036854775808) ∧ (-9223372036854775808 ≤ x.who ∧ x.who < 9223372036854775808) ∧ (-9223372036854775808 ≤ x.n ∧ x.n < 9223372036854775808) ∧ (-9223372036854775808 ≤ x.at_ ∧ x.at_ < 9223372036854775808), fun hle h => by obtain ⟨rfl, h0, h1, h2, h3⟩ := h; exact ⟨rfl, h0, h1, h2, h3⟩, fun h => by obtain ⟨rfl, h0, h1, h2, h3⟩ := h; rfl, fun h => by obtain ⟨rfl, h0, h1, h2, h3⟩ := h; exact one_of rfl, [I 0, I 0, I 0, I 0], fun _ => ⟨(⟨0, 0, 0, 0⟩ : EventD), ⟨rfl, (by decide), (by decide), (by decide), (by decide)⟩⟩⟩
def EII : Elt IID := ⟨2, 16, fun G cs x => cs = [I x.x, I x.y] ∧ (-9223372036854775808 ≤ x.x ∧ x.x < 9223372036854775808) ∧ (-9223372036854775808 ≤ x.y ∧ x.y < 9223372036854775808), fun hle h => by obtain ⟨rfl, h0, h1⟩ := h; exact ⟨rfl, h0, h1⟩, fun h => by obtain ⟨rfl, h0, h1⟩ := h; rfl, fun h => by obtain ⟨rfl, h0, h1⟩ := h; exact one_of rfl, [I 0, I 0], fun _ => ⟨(⟨0, 0⟩ : IID), ⟨rfl, (by decide), (by decide)⟩⟩⟩
def EProof : Elt ProofD := ⟨3, 64, fun G cs x => ∃ a0 c0 a1 c1, cs = [Sr x.name, Sl a0 x.entries.length c0, Sl a1 x.sides.length c1] ∧ ((x.name).length ≤ 140737488351232) ∧ (RS EEnt G a0 c0 x.entries) ∧ (RS EU G a1 c1 x.sides), fun hle h => by obtain ⟨a0, c0, a1, c1, rfl, h0, h1, h2⟩ := h; exact ⟨a0, c0, a1, c1, rfl, h0, h1.mono hle, h2.mono hle⟩, fun h => by obtain ⟨a0, c0, a1, c1, rfl, h0, h1, h2⟩ := h; rfl, fun h => by obtain ⟨a0, c0, a1, c1, rfl, h0, h1, h2⟩ := h; exact one_of rfl, [Sr [], Sl none 0 0, Sl none 0 0], fun _ => ⟨(⟨[], [], []⟩ : ProofD), ⟨none, 0, none, 0, rfl, (by decide), RS.nil' _ _, RS.nil' _ _⟩⟩⟩
def EReply : Elt ReplyD := ⟨7, 96, fun G cs x => ∃ a0 c0 a1 c1, cs = [I x.head.epoch, U x.head.root, U x.head.prev, I x.head.at_, Sr x.proof.name, Sl a0 x.proof.entries.length c0, Sl a1 x.proof.sides.length c1] ∧ (-9223372036854775808 ≤ x.head.epoch ∧ x.head.epoch < 9223372036854775808) ∧ (0 ≤ x.head.root ∧ x.head.root < 18446744073709551616) ∧ (0 ≤ x.head.prev ∧ x.head.prev < 18446744073709551616) ∧ (-9223372036854775808 ≤ x.head.at_ ∧ x.head.at_ < 9223372036854775808) ∧ ((x.proof.name).length ≤ 140737488351232) ∧ (RS EEnt G a0 c0 x.proof.entries) ∧ (RS EU G a1 c1 x.proof.sides), fun hle h => by obtain ⟨a0, c0, a1, c1, rfl, h0, h1, h2, h3, h4, h5, h6⟩ := h; exact ⟨a0, c0, a1, c1, rfl, h0, h1, h2, h3, h4, h5.mono hle, h6.mono hle⟩, fun h => by obtain ⟨a0, c0, a1, c1, rfl, h0, h1, h2, h3, h4, h5, h6⟩ := h; rfl, fun h => by obtain ⟨a0, c0, a1, c1, rfl, h0, h1, h2, h3, h4, h5, h6⟩ := h; exact one_of rfl, [I 0, U 0, U 0, I 0, Sr [], Sl none 0 0, Sl none 0 0], fun _ => ⟨(⟨(⟨0, 0, 0, 0⟩ : HeadD), (⟨[], [], []⟩ : ProofD)⟩ : ReplyD), ⟨none, 0, none, 0, rfl, (by decide), (by decide), (by decide), (by decide), (by decide), RS.nil' _ _, RS.nil' _ _⟩⟩⟩
def EQueue : Elt QueueD := ⟨2, 32, fun G cs x => ∃ a0 c0, cs = [I x.most, Sl a0 x.wait.length c0] ∧ (-9223372036854775808 ≤ x.most ∧ x.most < 9223372036854775808) ∧ (RS EAsk G a0 c0 x.wait), fun hle h => by obtain ⟨a0, c0, rfl, h0, h1⟩ := h; exact ⟨a0, c0, rfl, h0, h1.mono hle⟩, fun h => by obtain ⟨a0, c0, rfl, h0, h1⟩ := h; rfl, fun h => by obtain ⟨a0, c0, rfl, h0, h1⟩ := h; exact one_of rfl, [I 0, Sl none 0 0], fun _ => ⟨(⟨0, []⟩ : QueueD), ⟨none, 0, rfl, (by decide), RS.nil' _ _⟩⟩⟩
def ESlEnt : Elt (List EntD) := ⟨1, 24, fun G cs x => ∃ a0 c0, cs = [Sl a0 x.length c0] ∧ (RS EEnt G a0 c0 x), fun hle h => by obtain ⟨a0, c0, rfl, h0⟩ := h; exact ⟨a0, c0, rfl, h0.mono hle⟩, fun h => by obtain ⟨a0, c0, rfl, h0⟩ := h; rfl, fun h => by obtain ⟨a0, c0, rfl, h0⟩ := h; exact one_of rfl, [Sl none 0 0], fun _ => ⟨[], ⟨none, 0, rfl, RS.nil' _ _⟩⟩⟩
def EClerk : Elt ClerkD := ⟨7, 104, fun G cs x => ∃ a0 c0 a1 c1 a2 c2, cs = [I x.queue.most, Sl a0 x.queue.wait.length c0, I x.batch, I x.every, I x.now, Sl a1 x.heads.length c1, Sl a2 x.books.length c2] ∧ (-9223372036854775808 ≤ x.queue.most ∧ x.queue.most < 9223372036854775808) ∧ (RS EAsk G a0 c0 x.queue.wait) ∧ (-9223372036854775808 ≤ x.batch ∧ x.batch < 9223372036854775808) ∧ (-9223372036854775808 ≤ x.every ∧ x.every < 9223372036854775808) ∧ (-9223372036854775808 ≤ x.now ∧ x.now < 9223372036854775808) ∧ (RS EHead G a1 c1 x.heads) ∧ (RS ESlEnt G a2 c2 x.books), fun hle h => by obtain ⟨a0, c0, a1, c1, a2, c2, rfl, h0, h1, h2, h3, h4, h5, h6⟩ := h; exact ⟨a0, c0, a1, c1, a2, c2, rfl, h0, h1.mono hle, h2, h3, h4, h5.mono hle, h6.mono hle⟩, fun h => by obtain ⟨a0, c0, a1, c1, a2, c2, rfl, h0, h1, h2, h3, h4, h5, h6⟩ := h; rfl, fun h => by obtain ⟨a0, c0, a1, c1, a2, c2, rfl, h0, h1, h2, h3, h4, h5, h6⟩ := h; exact one_of rfl, [I 0, Sl none 0 0, I 0, I 0, I 0, Sl none 0 0, Sl none 0 0], fun _ => ⟨(⟨(⟨0, []⟩ : QueueD), 0, 0, 0, [], []⟩ : ClerkD), ⟨none, 0, none, 0, none, 0, rfl, (by decide), RS.nil' _ _, (by decide), (by decide), (by decide), RS.nil' _ _, RS.nil' _ _⟩⟩⟩
def EOwner : Elt OwnerD := ⟨8, 88, fun G cs x => ∃ a0 c0, cs = [Sr x.name, U x.key, I x.head.epoch, U x.head.root, U x.head.prev, I x.head.at_, Sl a0 x.wanted.length c0, I x.had] ∧ ((x.name).length ≤ 140737488351232) ∧ (0 ≤ x.key ∧ x.key < 18446744073709551616) ∧ (-9223372036854775808 ≤ x.head.epoch ∧ x.head.epoch < 9223372036854775808) ∧ (0 ≤ x.head.root ∧ x.head.root < 18446744073709551616) ∧ (0 ≤ x.head.prev ∧ x.head.prev < 18446744073709551616) ∧ (-9223372036854775808 ≤ x.head.at_ ∧ x.head.at_ < 9223372036854775808) ∧ (RS ES G a0 c0 x.wanted) ∧ (-9223372036854775808 ≤ x.had ∧ x.had < 9223372036854775808), fun hle h => by obtain ⟨a0, c0, rfl, h0, h1, h2, h3, h4, h5, h6, h7⟩ := h; exact ⟨a0, c0, rfl, h0, h1, h2, h3, h4, h5, h6.mono hle, h7⟩, fun h => by obtain ⟨a0, c0, rfl, h0, h1, h2, h3, h4, h5, h6, h7⟩ := h; rfl, fun h => by obtain ⟨a0, c0, rfl, h0, h1, h2, h3, h4, h5, h6, h7⟩ := h; exact one_of rfl, [Sr [], U 0, I 0, U 0, U 0, I 0, Sl none 0 0, I 0], fun _ => ⟨(⟨[], 0, (⟨0, 0, 0, 0⟩ : HeadD), [], 0⟩ : OwnerD), ⟨none, 0, rfl, (by decide), (by decide), (by decide), (by decide), (by decide), (by decide), RS.nil' _ _, (by decide)⟩⟩⟩
def ELetter : Elt LetterD := ⟨12, 152, fun G cs x => ∃ a0 c0 a1 c1 a2 c2, cs = [I x.to_, I x.from_, I x.since, I x.due, Sl a0 x.heads.length c0, I x.reply.head.epoch, U x.reply.head.root, U x.reply.head.prev, I x.reply.head.at_, Sr x.reply.proof.name, Sl a1 x.reply.proof.entries.length c1, Sl a2 x.reply.proof.sides.length c2] ∧ (-9223372036854775808 ≤ x.to_ ∧ x.to_ < 9223372036854775808) ∧ (-9223372036854775808 ≤ x.from_ ∧ x.from_ < 9223372036854775808) ∧ (-9223372036854775808 ≤ x.since ∧ x.since < 9223372036854775808) ∧ (-9223372036854775808 ≤ x.due ∧ x.due < 9223372036854775808) ∧ (RS EHead G a0 c0 x.heads) ∧ (-9223372036854775808 ≤ x.reply.head.epoch ∧ x.reply.head.epoch < 9223372036854775808) ∧ (0 ≤ x.reply.head.root ∧ x.reply.head.root < 18446744073709551616) ∧ (0 ≤ x.reply.head.prev ∧ x.reply.head.prev < 18446744073709551616) ∧ (-9223372036854775808 ≤ x.reply.head.at_ ∧ x.reply.head.at_ < 9223372036854775808) ∧ ((x.reply.proof.name).length ≤ 140737488351232) ∧ (RS EEnt G a1 c1 x.reply.proof.entries) ∧ (RS EU G a2 c2 x.reply.proof.sides), fun hle h => by obtain ⟨a0, c0, a1, c1, a2, c2, rfl, h0, h1, h2, h3, h4, h5, h6, h7, h8, h9, h10, h11⟩ := h; exact ⟨a0, c0, a1, c1, a2, c2, rfl, h0, h1, h2, h3, h4.mono hle, h5, h6, h7, h8, h9, h10.mono hle, h11.mono hle⟩, fun h => by obtain ⟨a0, c0, a1, c1, a2, c2, rfl, h0, h1, h2, h3, h4, h5, h6, h7, h8, h9, h10, h11⟩ := h; rfl, fun h => by obtain ⟨a0, c0, a1, c1, a2, c2, rfl, h0, h1, h2, h3, h4, h5, h6, h7, h8, h9, h10, h11⟩ := h; exact one_of rfl, [I 0, I 0, I 0, I 0, Sl none 0 0, I 0, U 0, U 0, I 0, Sr [], Sl none 0 0, Sl none 0 0], fun _ => ⟨(⟨0, 0, 0, 0, [], (⟨(⟨0, 0, 0, 0⟩ : HeadD), (⟨[], [], []⟩ : ProofD)⟩ : ReplyD)⟩ : LetterD), ⟨none, 0, none, 0, none, 0, rfl, (by decide), (by decide), (by decide), (by decide), RS.nil' _ _, (by decide), (by decide), (by decide), (by decide), (by decide), RS.nil' _ _, RS.nil' _ _⟩⟩⟩
def ENet : Elt NetD := ⟨2, 32, fun G cs x => ∃ a0 c0, cs = [I x.now, Sl a0 x.way.length c0] ∧ (-9223372036854775808 ≤ x.now ∧ x.now < 9223372036854775808) ∧ (RS ELetter G a0 c0 x.way), fun hle h => by obtain ⟨a0, c0, rfl, h0, h1⟩ := h; exact ⟨a0, c0, rfl, h0, h1.mono hle⟩, fun h => by obtain ⟨a0, c0, rfl, h0, h1⟩ := h; rfl, fun h => by obtain ⟨a0, c0, rfl, h0, h1⟩ := h; exact one_of rfl, [I 0, Sl none 0 0], fun _ => ⟨(⟨0, []⟩ : NetD), ⟨none, 0, rfl, (by decide), RS.nil' _ _⟩⟩⟩
def ESetup : Elt SetupD := ⟨9, 104, fun G cs x => ∃ a0 c0 a1 c1, cs = [Sl a0 x.names.length c0, Sl a1 x.keys.length c1, I x.most, I x.batch, I x.every, I x.least, I x.top, I x.lost, I x.reach] ∧ (RS ES G a0 c0 x.names) ∧ (RS EU G a1 c1 x.keys) ∧ (-9223372036854775808 ≤ x.most ∧ x.most < 9223372036854775808) ∧ (-9223372036854775808 ≤ x.batch ∧ x.batch < 9223372036854775808) ∧ (-9223372036854775808 ≤ x.every ∧ x.every < 9223372036854775808) ∧ (-9223372036854775808 ≤ x.least ∧ x.least < 9223372036854775808) ∧ (-9223372036854775808 ≤ x.top ∧ x.top < 9223372036854775808) ∧ (-9223372036854775808 ≤ x.lost ∧ x.lost < 9223372036854775808) ∧ (-9223372036854775808 ≤ x.reach ∧ x.reach < 9223372036854775808), fun hle h => by obtain ⟨a0, c0, a1, c1, rfl, h0, h1, h2, h3, h4, h5, h6, h7, h8⟩ := h; exact ⟨a0, c0, a1, c1, rfl, h0.mono hle, h1.mono hle, h2, h3, h4, h5, h6, h7, h8⟩, fun h => by obtain ⟨a0, c0, a1, c1, rfl, h0, h1, h2, h3, h4, h5, h6, h7, h8⟩ := h; rfl, fun h => by obtain ⟨a0, c0, a1, c1, rfl, h0, h1, h2, h3, h4, h5, h6, h7, h8⟩ := h; exact one_of rfl, [Sl none 0 0, Sl none 0 0, I 0, I 0, I 0, I 0, I 0, I 0, I 0], fun _ => ⟨(⟨[], [], 0, 0, 0, 0, 0, 0, 0⟩ : SetupD), ⟨none, 0, none, 0, rfl, RS.nil' _ _, RS.nil' _ _, (by decide), (by decide), (by decide), (by decide), (by decide), (by decide), (by decide)⟩⟩⟩
def EDeed : Elt DeedD := ⟨16, 208, fun G cs x => ∃ a0 c0 a1 c1 a2 c2 a3 c3, cs = [I x.kind, I x.who, Sr x.value, Sl a0 x.fates.length c0, I x.letter.to_, I x.letter.from_, I x.letter.since, I x.letter.due, Sl a1 x.letter.heads.length c1, I x.letter.reply.head.epoch, U x.letter.reply.head.root, U x.letter.reply.head.prev, I x.letter.reply.head.at_, Sr x.letter.reply.proof.name, Sl a2 x.letter.reply.proof.entries.length c2, Sl a3 x.letter.reply.proof.sides.length c3] ∧ (-9223372036854775808 ≤ x.kind ∧ x.kind < 9223372036854775808) ∧ (-9223372036854775808 ≤ x.who ∧ x.who < 9223372036854775808) ∧ ((x.value).length ≤ 140737488351232) ∧ (RS EI G a0 c0 x.fates) ∧ (-9223372036854775808 ≤ x.letter.to_ ∧ x.letter.to_ < 9223372036854775808) ∧ (-9223372036854775808 ≤ x.letter.from_ ∧ x.letter.from_ < 9223372036854775808) ∧ (-9223372036854775808 ≤ x.letter.since ∧ x.letter.since < 9223372036854775808) ∧ (-9223372036854775808 ≤ x.letter.due ∧ x.letter.due < 9223372036854775808) ∧ (RS EHead G a1 c1 x.letter.heads) ∧ (-9223372036854775808 ≤ x.letter.reply.head.epoch ∧ x.letter.reply.head.epoch < 9223372036854775808) ∧ (0 ≤ x.letter.reply.head.root ∧ x.letter.reply.head.root < 18446744073709551616) ∧ (0 ≤ x.letter.reply.head.prev ∧ x.letter.reply.head.prev < 18446744073709551616) ∧ (-9223372036854775808 ≤ x.letter.reply.head.at_ ∧ x.letter.reply.head.at_ < 9223372036854775808) ∧ ((x.letter.reply.proof.name).length ≤ 140737488351232) ∧ (RS EEnt G a2 c2 x.letter.reply.proof.entries) ∧ (RS EU G a3 c3 x.letter.reply.proof.sides), fun hle h => by obtain ⟨a0, c0, a1, c1, a2, c2, a3, c3, rfl, h0, h1, h2, h3, h4, h5, h6, h7, h8, h9, h10, h11, h12, h13, h14, h15⟩ := h; exact ⟨a0, c0, a1, c1, a2, c2, a3, c3, rfl, h0, h1, h2, h3.mono hle, h4, h5, h6, h7, h8.mono hle, h9, h10, h11, h12, h13, h14.mono hle, h15.mono hle⟩, fun h => by obtain ⟨a0, c0, a1, c1, a2, c2, a3, c3, rfl, h0, h1, h2, h3, h4, h5, h6, h7, h8, h9, h10, h11, h12, h13, h14, h15⟩ := h; rfl, fun h => by obtain ⟨a0, c0, a1, c1, a2, c2, a3, c3, rfl, h0, h1, h2, h3, h4, h5, h6, h7, h8, h9, h10, h11, h12, h13, h14, h15⟩ := h; exact one_of rfl, [I 0, I 0, Sr [], Sl none 0 0, I 0, I 0, I 0, I 0, Sl none 0 0, I 0, U 0, U 0, I 0, Sr [], Sl none 0 0, Sl none 0 0], fun _ => ⟨(⟨0, 0, [], [], (⟨0, 0, 0, 0, [], (⟨(⟨0, 0, 0, 0⟩ : HeadD), (⟨[], [], []⟩ : ProofD)⟩ : ReplyD)⟩ : LetterD)⟩ : DeedD), ⟨none, 0, none, 0, none, 0, none, 0, rfl, (by decide), (by decide), (by decide), RS.nil' _ _, (by decide), (by decide), (by decide), (by decide), RS.nil' _ _, (by decide), (by decide), (by decide), (by decide), (by decide), RS.nil' _ _, RS.nil' _ _⟩⟩⟩
def ETown : Elt TownD := ⟨11, 184, fun G cs x => ∃ a0 c0 a1 c1 a2 c2 a3 c3 a4 c4 a5 c5, cs = [I x.clerk.queue.most, Sl a0 x.clerk.queue.wait.length c0, I x.clerk.batch, I x.clerk.every, I x.clerk.now, Sl a1 x.clerk.heads.length c1, Sl a2 x.clerk.books.length c2, Sl a3 x.owners.length c3, Sl a4 x.polls.length c4, I x.net.now, Sl a5 x.net.way.length c5] ∧ (-9223372036854775808 ≤ x.clerk.queue.most ∧ x.clerk.queue.most < 9223372036854775808) ∧ (RS EAsk G a0 c0 x.clerk.queue.wait) ∧ (-9223372036854775808 ≤ x.clerk.batch ∧ x.clerk.batch < 9223372036854775808) ∧ (-9223372036854775808 ≤ x.clerk.every ∧ x.clerk.every < 9223372036854775808) ∧ (-9223372036854775808 ≤ x.clerk.now ∧ x.clerk.now < 9223372036854775808) ∧ (RS EHead G a1 c1 x.clerk.heads) ∧ (RS ESlEnt G a2 c2 x.clerk.books) ∧ (RS EOwner G a3 c3 x.owners) ∧ (RS EPoll G a4 c4 x.polls) ∧ (-9223372036854775808 ≤ x.net.now ∧ x.net.now < 9223372036854775808) ∧ (RS ELetter G a5 c5 x.net.way), fun hle h => by obtain ⟨a0, c0, a1, c1, a2, c2, a3, c3, a4, c4, a5, c5, rfl, h0, h1, h2, h3, h4, h5, h6, h7, h8, h9, h10⟩ := h; exact ⟨a0, c0, a1, c1, a2, c2, a3, c3, a4, c4, a5, c5, rfl, h0, h1.mono hle, h2, h3, h4, h5.mono hle, h6.mono hle, h7.mono hle, h8.mono hle, h9, h10.mono hle⟩, fun h => by obtain ⟨a0, c0, a1, c1, a2, c2, a3, c3, a4, c4, a5, c5, rfl, h0, h1, h2, h3, h4, h5, h6, h7, h8, h9, h10⟩ := h; rfl, fun h => by obtain ⟨a0, c0, a1, c1, a2, c2, a3, c3, a4, c4, a5, c5, rfl, h0, h1, h2, h3, h4, h5, h6, h7, h8, h9, h10⟩ := h; exact one_of rfl, [I 0, Sl none 0 0, I 0, I 0, I 0, Sl none 0 0, Sl none 0 0, Sl none 0 0, Sl none 0 0, I 0, Sl none 0 0], fun _ => ⟨(⟨(⟨(⟨0, []⟩ : QueueD), 0, 0, 0, [], []⟩ : ClerkD), [], [], (⟨0, []⟩ : NetD)⟩ : TownD), ⟨none, 0, none, 0, none, 0, none, 0, none, 0, none, 0, rfl, (by decide), RS.nil' _ _, (by decide), (by decide), (by decide), RS.nil' _ _, RS.nil' _ _, RS.nil' _ _, RS.nil' _ _, (by decide), RS.nil' _ _⟩⟩⟩
def EHH : Elt HHD := ⟨8, 64, fun G cs x => cs = [I x.x.epoch, U x.x.root, U x.x.prev, I x.x.at_, I x.y.epoch, U x.y.root, U x.y.prev, I x.y.at_] ∧ (-9223372036854775808 ≤ x.x.epoch ∧ x.x.epoch < 9223372036854775808) ∧ (0 ≤ x.x.root ∧ x.x.root < 18446744073709551616) ∧ (0 ≤ x.x.prev ∧ x.x.prev < 18446744073709551616) ∧ (-9223372036854775808 ≤ x.x.at_ ∧ x.x.at_ < 9223372036854775808) ∧ (-9223372036854775808 ≤ x.y.epoch ∧ x.y.epoch < 9223372036854775808) ∧ (0 ≤ x.y.root ∧ x.y.root < 18446744073709551616) ∧ (0 ≤ x.y.prev ∧ x.y.prev < 18446744073709551616) ∧ (-9223372036854775808 ≤ x.y.at_ ∧ x.y.at_ < 9223372036854775808), fun hle h => by obtain ⟨rfl, h0, h1, h2, h3, h4, h5, h6, h7⟩ := h; exact ⟨rfl, h0, h1, h2, h3, h4, h5, h6, h7⟩, fun h => by obtain ⟨rfl, h0, h1, h2, h3, h4, h5, h6, h7⟩ := h; rfl, fun h => by obtain ⟨rfl, h0, h1, h2, h3, h4, h5, h6, h7⟩ := h; exact one_of rfl, [I 0, U 0, U 0, I 0, I 0, U 0, U 0, I 0], fun _ => ⟨(⟨(⟨0, 0, 0, 0⟩ : HeadD), (⟨0, 0, 0, 0⟩ : HeadD)⟩ : HHD), ⟨rfl, (by decide), (by decide), (by decide), (by decide), (by decide), (by decide), (by decide), (by decide)⟩⟩⟩
def ESlHead : Elt (List HeadD) := ⟨1, 24, fun G cs x => ∃ a0 c0, cs = [Sl a0 x.length c0] ∧ (RS EHead G a0 c0 x), fun hle h => by obtain ⟨a0, c0, rfl, h0⟩ := h; exact ⟨a0, c0, rfl, h0.mono hle⟩, fun h => by obtain ⟨a0, c0, rfl, h0⟩ := h; rfl, fun h => by obtain ⟨a0, c0, rfl, h0⟩ := h; exact one_of rfl, [Sl none 0 0], fun _ => ⟨[], ⟨none, 0, rfl, RS.nil' _ _⟩⟩⟩
def ESlS : Elt (List ((List UInt8))) := ⟨1, 24, fun G cs x => ∃ a0 c0, cs = [Sl a0 x.length c0] ∧ (RS ES G a0 c0 x), fun hle h => by obtain ⟨a0, c0, rfl, h0⟩ := h; exact ⟨a0, c0, rfl, h0.mono hle⟩, fun h => by obtain ⟨a0, c0, rfl, h0⟩ := h; rfl, fun h => by obtain ⟨a0, c0, rfl, h0⟩ := h; exact one_of rfl, [Sl none 0 0], fun _ => ⟨[], ⟨none, 0, rfl, RS.nil' _ _⟩⟩⟩
def ESlI : Elt (List Int) := ⟨1, 24, fun G cs x => ∃ a0 c0, cs = [Sl a0 x.length c0] ∧ (RS EI G a0 c0 x), fun hle h => by obtain ⟨a0, c0, rfl, h0⟩ := h; exact ⟨a0, c0, rfl, h0.mono hle⟩, fun h => by obtain ⟨a0, c0, rfl, h0⟩ := h; rfl, fun h => by obtain ⟨a0, c0, rfl, h0⟩ := h; exact one_of rfl, [Sl none 0 0], fun _ => ⟨[], ⟨none, 0, rfl, RS.nil' _ _⟩⟩⟩
def ESlAsk : Elt (List AskD) := ⟨1, 24, fun G cs x => ∃ a0 c0, cs = [Sl a0 x.length c0] ∧ (RS EAsk G a0 c0 x), fun hle h => by obtain ⟨a0, c0, rfl, h0⟩ := h; exact ⟨a0, c0, rfl, h0.mono hle⟩, fun h => by obtain ⟨a0, c0, rfl, h0⟩ := h; rfl, fun h => by obtain ⟨a0, c0, rfl, h0⟩ := h; exact one_of rfl, [Sl none 0 0], fun _ => ⟨[], ⟨none, 0, rfl, RS.nil' _ _⟩⟩⟩
def ESlU : Elt (List Int) := ⟨1, 24, fun G cs x => ∃ a0 c0, cs = [Sl a0 x.length c0] ∧ (RS EU G a0 c0 x), fun hle h => by obtain ⟨a0, c0, rfl, h0⟩ := h; exact ⟨a0, c0, rfl, h0.mono hle⟩, fun h => by obtain ⟨a0, c0, rfl, h0⟩ := h; rfl, fun h => by obtain ⟨a0, c0, rfl, h0⟩ := h; exact one_of rfl, [Sl none 0 0], fun _ => ⟨[], ⟨none, 0, rfl, RS.nil' _ _⟩⟩⟩
theorem EntD_eta (x : EntD) : (⟨x.name, x.value⟩ : EntD) = x := rfl
theorem AskD_eta (x : AskD) : (⟨x.name, x.value, x.n, x.tag⟩ : AskD) = x := rfl
theorem HeadD_eta (x : HeadD) : (⟨x.epoch, x.root, x.prev, x.at_⟩ : HeadD) = x := rfl
theorem PollD_eta (x : PollD) : (⟨x.least, x.most, x.lost, x.gap, x.next, x.asked⟩ : PollD) = x := rfl
theorem FoundD_eta (x : FoundD) : (⟨x.a, x.b, x.epoch⟩ : FoundD) = x := rfl
theorem EventD_eta (x : EventD) : (⟨x.kind, x.who, x.n, x.at_⟩ : EventD) = x := rfl
theorem IID_eta (x : IID) : (⟨x.x, x.y⟩ : IID) = x := rfl

theorem o_EI {G : Mem} {cs : List Value} {m : Nat} (h : RdL Tryz.prog G [.int .i64] cs m) : ∃ x, EI.R G cs x ∧ (fun _ => 0) x ≤ m := by
  obtain ⟨_, c0, _, _, rfl, _, k0, h⟩ := h
  obtain ⟨x0, rfl, w0⟩ := k0
  have h : c0 = [] := h
  subst h
  exact ⟨x0, ⟨rfl, wf_i64 w0⟩, Nat.zero_le _⟩


theorem o_EU {G : Mem} {cs : List Value} {m : Nat} (h : RdL Tryz.prog G [.int .u64] cs m) : ∃ x, EU.R G cs x ∧ (fun _ => 0) x ≤ m := by
  obtain ⟨_, c0, _, _, rfl, _, k0, h⟩ := h
  obtain ⟨x0, rfl, w0⟩ := k0
  have h : c0 = [] := h
  subst h
  exact ⟨x0, ⟨rfl, wf_u64 w0⟩, Nat.zero_le _⟩


theorem o_EY {G : Mem} {cs : List Value} {m : Nat} (h : RdL Tryz.prog G [.int .u8] cs m) : ∃ x, EY.R G cs x ∧ (fun _ => 0) x ≤ m := by
  obtain ⟨_, c0, _, _, rfl, _, k0, h⟩ := h
  obtain ⟨x0, rfl, w0⟩ := k0
  have h : c0 = [] := h
  subst h
  exact ⟨x0, ⟨rfl, wf_u8 w0⟩, Nat.zero_le _⟩


theorem o_ES {G : Mem} {cs : List Value} {m : Nat} (h : RdL Tryz.prog G [.str] cs m) : ∃ x, ES.R G cs x ∧ (fun _ => 0) x ≤ m := by
  obtain ⟨_, c0, _, _, rfl, _, k0, h⟩ := h
  obtain ⟨x0, rfl, w0, _⟩ := k0
  have h : c0 = [] := h
  subst h
  exact ⟨x0, ⟨rfl, w0⟩, Nat.zero_le _⟩


theorem o_EB {G : Mem} {cs : List Value} {m : Nat} (h : RdL Tryz.prog G [.bool] cs m) : ∃ x, EB.R G cs x ∧ (fun _ => 0) x ≤ m := by
  obtain ⟨_, c0, _, _, rfl, _, k0, h⟩ := h
  obtain ⟨x0, rfl⟩ := k0
  have h : c0 = [] := h
  subst h
  exact ⟨x0, rfl, Nat.zero_le _⟩


theorem o_EEnt {G : Mem} {cs : List Value} {m : Nat} (h : RdL Tryz.prog G [.str, .str] cs m) : ∃ x, EEnt.R G cs x ∧ (fun _ => 0) x ≤ m := by
  obtain ⟨_, c0, _, _, rfl, _, k0, h⟩ := h
  obtain ⟨x0, rfl, w0, _⟩ := k0
  obtain ⟨_, c1, _, _, rfl, _, k1, h⟩ := h
  obtain ⟨x1, rfl, w1, _⟩ := k1
  have h : c1 = [] := h
  subst h
  exact ⟨(⟨x0, x1⟩ : EntD), ⟨rfl, w0, w1⟩, Nat.zero_le _⟩


theorem o_EHead {G : Mem} {cs : List Value} {m : Nat} (h : RdL Tryz.prog G [.int .i64, .int .u64, .int .u64, .int .i64] cs m) : ∃ x, EHead.R G cs x ∧ (fun _ => 0) x ≤ m := by
  obtain ⟨_, c0, _, _, rfl, _, k0, h⟩ := h
  obtain ⟨x0, rfl, w0⟩ := k0
  obtain ⟨_, c1, _, _, rfl, _, k1, h⟩ := h
  obtain ⟨x1, rfl, w1⟩ := k1
  obtain ⟨_, c2, _, _, rfl, _, k2, h⟩ := h
  obtain ⟨x2, rfl, w2⟩ := k2
  obtain ⟨_, c3, _, _, rfl, _, k3, h⟩ := h
  obtain ⟨x3, rfl, w3⟩ := k3
  have h : c3 = [] := h
  subst h
  exact ⟨(⟨x0, x1, x2, x3⟩ : HeadD), ⟨rfl, wf_i64 w0, wf_u64 w1, wf_u64 w2, wf_i64 w3⟩, Nat.zero_le _⟩


theorem o_EProof {G : Mem} {cs : List Value} {m : Nat} (h : RdL Tryz.prog G [.str, .sl 41, .sl 25] cs m) : ∃ x, EProof.R G cs x ∧ (fun _ => 0) x ≤ m := by
  obtain ⟨_, c0, _, _, rfl, _, k0, h⟩ := h
  obtain ⟨x0, rfl, w0, _⟩ := k0
  obtain ⟨_, c1, _, _, rfl, _, k1, h⟩ := h
  obtain ⟨a1, c1_, x1, rfl, hs1, _, hcap1⟩ := rd_slice (E := EEnt) (e := 106) (size := fun _ => 0) k1 (by kernel_rfl) (by kernel_rfl) (fun cs m h => o_EEnt h) (by decide +kernel) (by kernel_rfl) (by kernel_rfl)
  obtain ⟨_, c2, _, _, rfl, _, k2, h⟩ := h
  obtain ⟨a2, c2_, x2, rfl, hs2, _, hcap2⟩ := rd_slice (E := EU) (e := 34) (size := fun _ => 0) k2 (by kernel_rfl) (by kernel_rfl) (fun cs m h => o_EU h) (by decide +kernel) (by kernel_rfl) (by kernel_rfl)
  have h : c2 = [] := h
  subst h
  exact ⟨(⟨x0, x1, x2⟩ : ProofD), ⟨a1, c1_, a2, c2_, rfl, w0, hs1, hs2⟩, Nat.zero_le _⟩


theorem o_EReply {G : Mem} {cs : List Value} {m : Nat} (h : RdL Tryz.prog G [.int .i64, .int .u64, .int .u64, .int .i64, .str, .sl 41, .sl 25] cs m) : ∃ x, EReply.R G cs x ∧ (fun _ => 0) x ≤ m := by
  obtain ⟨_, c0, _, _, rfl, _, k0, h⟩ := h
  obtain ⟨x0, rfl, w0⟩ := k0
  obtain ⟨_, c1, _, _, rfl, _, k1, h⟩ := h
  obtain ⟨x1, rfl, w1⟩ := k1
  obtain ⟨_, c2, _, _, rfl, _, k2, h⟩ := h
  obtain ⟨x2, rfl, w2⟩ := k2
  obtain ⟨_, c3, _, _, rfl, _, k3, h⟩ := h
  obtain ⟨x3, rfl, w3⟩ := k3
  obtain ⟨_, c4, _, _, rfl, _, k4, h⟩ := h
  obtain ⟨x4, rfl, w4, _⟩ := k4
  obtain ⟨_, c5, _, _, rfl, _, k5, h⟩ := h
  obtain ⟨a5, c5_, x5, rfl, hs5, _, hcap5⟩ := rd_slice (E := EEnt) (e := 106) (size := fun _ => 0) k5 (by kernel_rfl) (by kernel_rfl) (fun cs m h => o_EEnt h) (by decide +kernel) (by kernel_rfl) (by kernel_rfl)
  obtain ⟨_, c6, _, _, rfl, _, k6, h⟩ := h
  obtain ⟨a6, c6_, x6, rfl, hs6, _, hcap6⟩ := rd_slice (E := EU) (e := 34) (size := fun _ => 0) k6 (by kernel_rfl) (by kernel_rfl) (fun cs m h => o_EU h) (by decide +kernel) (by kernel_rfl) (by kernel_rfl)
  have h : c6 = [] := h
  subst h
  exact ⟨(⟨(⟨x0, x1, x2, x3⟩ : HeadD), (⟨x4, x5, x6⟩ : ProofD)⟩ : ReplyD), ⟨a5, c5_, a6, c6_, rfl, wf_i64 w0, wf_u64 w1, wf_u64 w2, wf_i64 w3, w4, hs5, hs6⟩, Nat.zero_le _⟩


theorem o_ESlEnt {G : Mem} {cs : List Value} {m : Nat} (h : RdL Tryz.prog G [.sl 41] cs m) : ∃ x, ESlEnt.R G cs x ∧ (fun _ => 0) x ≤ m := by
  obtain ⟨_, c0, _, _, rfl, _, k0, h⟩ := h
  obtain ⟨a0, c0_, x0, rfl, hs0, _, hcap0⟩ := rd_slice (E := EEnt) (e := 106) (size := fun _ => 0) k0 (by kernel_rfl) (by kernel_rfl) (fun cs m h => o_EEnt h) (by decide +kernel) (by kernel_rfl) (by kernel_rfl)
  have h : c0 = [] := h
  subst h
  exact ⟨x0, ⟨a0, c0_, rfl, hs0⟩, Nat.zero_le _⟩


theorem o_ESlS {G : Mem} {cs : List Value} {m : Nat} (h : RdL Tryz.prog G [.sl 137] cs m) : ∃ x, ESlS.R G cs x ∧ (fun _ => 0) x ≤ m := by
  obtain ⟨_, c0, _, _, rfl, _, k0, h⟩ := h
  obtain ⟨a0, c0_, x0, rfl, hs0, _, hcap0⟩ := rd_slice (E := ES) (e := 9) (size := fun _ => 0) k0 (by kernel_rfl) (by kernel_rfl) (fun cs m h => o_ES h) (by decide +kernel) (by kernel_rfl) (by kernel_rfl)
  have h : c0 = [] := h
  subst h
  exact ⟨x0, ⟨a0, c0_, rfl, hs0⟩, Nat.zero_le _⟩


theorem o_ESlI {G : Mem} {cs : List Value} {m : Nat} (h : RdL Tryz.prog G [.sl 148] cs m) : ∃ x, ESlI.R G cs x ∧ (fun _ => 0) x ≤ m := by
  obtain ⟨_, c0, _, _, rfl, _, k0, h⟩ := h
  obtain ⟨a0, c0_, x0, rfl, hs0, _, hcap0⟩ := rd_slice (E := EI) (e := 3) (size := fun _ => 0) k0 (by kernel_rfl) (by kernel_rfl) (fun cs m h => o_EI h) (by decide +kernel) (by kernel_rfl) (by kernel_rfl)
  have h : c0 = [] := h
  subst h
  exact ⟨x0, ⟨a0, c0_, rfl, hs0⟩, Nat.zero_le _⟩


theorem o_ESlU {G : Mem} {cs : List Value} {m : Nat} (h : RdL Tryz.prog G [.sl 25] cs m) : ∃ x, ESlU.R G cs x ∧ (fun _ => 0) x ≤ m := by
  obtain ⟨_, c0, _, _, rfl, _, k0, h⟩ := h
  obtain ⟨a0, c0_, x0, rfl, hs0, _, hcap0⟩ := rd_slice (E := EU) (e := 34) (size := fun _ => 0) k0 (by kernel_rfl) (by kernel_rfl) (fun cs m h => o_EU h) (by decide +kernel) (by kernel_rfl) (by kernel_rfl)
  have h : c0 = [] := h
  subst h
  exact ⟨x0, ⟨a0, c0_, rfl, hs0⟩, Nat.zero_le _⟩

end Go.Proofs.YtngoijkcbmchdaaGreatDoor
