/-
  No cell of these rows narrows 'for every input' (looked for: loops, veiled, ifaces, maps, wideKeys, modest, calm, conditions, laid).
  DERIVED. THE GIVEN ROWS OF THIS SEAT. 14 by the template 'for every input the law returns true; each argument reads behind the call as it read before'; 0 by the template 'total and deterministic' (their statements: YtgcnkcajfjpbcaaTotals.lean).
  GIVEN WITH THE SEED: the statements are not yours to turn. If you find one false, say at which input.
  Laid BY PROGRAM, IN A SANDBOX (cutbox-rows.mjs): the forced cells as the released guide's own fill.sh prints them over the translation 2a08333a76a5b26e… (all of the seat's roots in one cut). By AI agents, Wed Nov 11 2026. No macro, syntax, notation, axiom, sorry.
-/
import Derived.Test.YtgcnkcajfjpbcaaChecked
import GoSem.Claim
import GoSem.ClaimJoined
import GoSem.ClaimMapViews
import Derived.JoinedTies
import Derived.KernelRfl
namespace Go.Proofs.Ytgcnkcajfjpbcaa
/- THE CELL 'sum', in the pinned program and in every row, IS THE sha256 OF THE DUMP (.gsa) THAT YtgcnkcajfjpbcaaProg.lean LOADS. Nothing in Lean hashes anything: it is a label: what it is worth is what the hold of that sum in a sandbox is worth. -/
noncomputable def Try.pinned : Pinned := { name := "ytgcnkcajfjpbcaa", sum := "2a08333a76a5b26edffe34162137dc856b9ee3abdf954b0750ad914d0274d600", checked := Try.checked }
namespace Rows
def none {H : Type} : Left H := { results := [], args := [] }

/-- 'tallyrollkeep.PollWaits': WHATEVER THE INPUT: true; the input reads as it did. -/
def pollWaitsSpec : ChangeSpec := { name := "pollWaits", fn := fun _ => fun
  | [d1, d2] => { results := [.lit (.bool true)], args := [d1, d2] }
  | _ => none }
def pollWaitsRow : OpenClaim := { program := "ytgcnkcajfjpbcaa", sum := "2a08333a76a5b26edffe34162137dc856b9ee3abdf954b0750ad914d0274d600", func := "tallyroll/tallyrollkeep.PollWaits", spec := "pollWaits", apart := false }
def PollWaitsSaid : Prop := pollWaitsRow.holds Try.pinned (OpenSpec.ofChange pollWaitsSpec)

/-- ITS FALSE NEIGHBOUR: 'it returns false'. Refute it at one input. -/
def pollWaitsWrong : ChangeSpec := { name := "pollWaits", fn := fun _ => fun
  | [d1, d2] => { results := [.lit (.bool false)], args := [d1, d2] }
  | _ => none }
def PollWaitsWrongFalsely : Prop := pollWaitsRow.holds Try.pinned (OpenSpec.ofChange pollWaitsWrong)

/-- 'tallyrollkeep.HeadBack': WHATEVER THE INPUT: true; the input reads as it did. -/
def headBackSpec : ChangeSpec := { name := "headBack", fn := fun _ => fun
  | [d1, d2] => { results := [.lit (.bool true)], args := [d1, d2] }
  | _ => none }
def headBackRow : OpenClaim := { program := "ytgcnkcajfjpbcaa", sum := "2a08333a76a5b26edffe34162137dc856b9ee3abdf954b0750ad914d0274d600", func := "tallyroll/tallyrollkeep.HeadBack", spec := "headBack", apart := false }
def HeadBackSaid : Prop := headBackRow.holds Try.pinned (OpenSpec.ofChange headBackSpec)

/-- ITS FALSE NEIGHBOUR: 'it returns false'. Refute it at one input. -/
def headBackWrong : ChangeSpec := { name := "headBack", fn := fun _ => fun
  | [d1, d2] => { results := [.lit (.bool false)], args := [d1, d2] }
  | _ => none }
def HeadBackWrongFalsely : Prop := headBackRow.holds Try.pinned (OpenSpec.ofChange headBackWrong)

/-- 'tallyrollkeep.PollGone': WHATEVER THE INPUT: true; the input reads as it did. -/
def pollGoneSpec : ChangeSpec := { name := "pollGone", fn := fun _ => fun
  | [d1, d2, d3, d4] => { results := [.lit (.bool true)], args := [d1, d2, d3, d4] }
  | _ => none }
def pollGoneRow : OpenClaim := { program := "ytgcnkcajfjpbcaa", sum := "2a08333a76a5b26edffe34162137dc856b9ee3abdf954b0750ad914d0274d600", func := "tallyroll/tallyrollkeep.PollGone", spec := "pollGone", unfollowed := true, recurses := true, apart := false }
def PollGoneSaid : Prop := pollGoneRow.holds Try.pinned (OpenSpec.ofChange pollGoneSpec)

/-- ITS FALSE NEIGHBOUR: 'it returns false'. Refute it at one input. -/
def pollGoneWrong : ChangeSpec := { name := "pollGone", fn := fun _ => fun
  | [d1, d2, d3, d4] => { results := [.lit (.bool false)], args := [d1, d2, d3, d4] }
  | _ => none }
def PollGoneWrongFalsely : Prop := pollGoneRow.holds Try.pinned (OpenSpec.ofChange pollGoneWrong)

/-- 'tallyrollkeep.NetOwn': WHATEVER THE INPUT: true; the input reads as it did. -/
def netOwnSpec : ChangeSpec := { name := "netOwn", fn := fun _ => fun
  | [d1, d2, d3] => { results := [.lit (.bool true)], args := [d1, d2, d3] }
  | _ => none }
def netOwnRow : OpenClaim := { program := "ytgcnkcajfjpbcaa", sum := "2a08333a76a5b26edffe34162137dc856b9ee3abdf954b0750ad914d0274d600", func := "tallyroll/tallyrollkeep.NetOwn", spec := "netOwn", unfollowed := true, recurses := true, apart := false }
def NetOwnSaid : Prop := netOwnRow.holds Try.pinned (OpenSpec.ofChange netOwnSpec)

/-- ITS FALSE NEIGHBOUR: 'it returns false'. Refute it at one input. -/
def netOwnWrong : ChangeSpec := { name := "netOwn", fn := fun _ => fun
  | [d1, d2, d3] => { results := [.lit (.bool false)], args := [d1, d2, d3] }
  | _ => none }
def NetOwnWrongFalsely : Prop := netOwnRow.holds Try.pinned (OpenSpec.ofChange netOwnWrong)

/-- 'tallyrollkeep.QueueWaits': WHATEVER THE INPUT: true; the input reads as it did. -/
def queueWaitsSpec : ChangeSpec := { name := "queueWaits", fn := fun _ => fun
  | [d1, d2, d3, d4, d5] => { results := [.lit (.bool true)], args := [d1, d2, d3, d4, d5] }
  | _ => none }
def queueWaitsRow : OpenClaim := { program := "ytgcnkcajfjpbcaa", sum := "2a08333a76a5b26edffe34162137dc856b9ee3abdf954b0750ad914d0274d600", func := "tallyroll/tallyrollkeep.QueueWaits", spec := "queueWaits", unfollowed := true, recurses := true, apart := false }
def QueueWaitsSaid : Prop := queueWaitsRow.holds Try.pinned (OpenSpec.ofChange queueWaitsSpec)

/-- ITS FALSE NEIGHBOUR: 'it returns false'. Refute it at one input. -/
def queueWaitsWrong : ChangeSpec := { name := "queueWaits", fn := fun _ => fun
  | [d1, d2, d3, d4, d5] => { results := [.lit (.bool false)], args := [d1, d2, d3, d4, d5] }
  | _ => none }
def QueueWaitsWrongFalsely : Prop := queueWaitsRow.holds Try.pinned (OpenSpec.ofChange queueWaitsWrong)

/-- 'tallyrollkeep.NetComes': WHATEVER THE INPUT: true; the input reads as it did. -/
def netComesSpec : ChangeSpec := { name := "netComes", fn := fun _ => fun
  | [d1, d2, d3] => { results := [.lit (.bool true)], args := [d1, d2, d3] }
  | _ => none }
def netComesRow : OpenClaim := { program := "ytgcnkcajfjpbcaa", sum := "2a08333a76a5b26edffe34162137dc856b9ee3abdf954b0750ad914d0274d600", func := "tallyroll/tallyrollkeep.NetComes", spec := "netComes", unfollowed := true, recurses := true, apart := false }
def NetComesSaid : Prop := netComesRow.holds Try.pinned (OpenSpec.ofChange netComesSpec)

/-- ITS FALSE NEIGHBOUR: 'it returns false'. Refute it at one input. -/
def netComesWrong : ChangeSpec := { name := "netComes", fn := fun _ => fun
  | [d1, d2, d3] => { results := [.lit (.bool false)], args := [d1, d2, d3] }
  | _ => none }
def NetComesWrongFalsely : Prop := netComesRow.holds Try.pinned (OpenSpec.ofChange netComesWrong)

/-- 'tallyrollkeep.WireBack': WHATEVER THE INPUT: true; the input reads as it did. -/
def wireBackSpec : ChangeSpec := { name := "wireBack", fn := fun _ => fun
  | [d1, d2, d3] => { results := [.lit (.bool true)], args := [d1, d2, d3] }
  | _ => none }
def wireBackRow : OpenClaim := { program := "ytgcnkcajfjpbcaa", sum := "2a08333a76a5b26edffe34162137dc856b9ee3abdf954b0750ad914d0274d600", func := "tallyroll/tallyrollkeep.WireBack", spec := "wireBack", inPlace := ["internal/abi.NoEscape"], apart := false }
def WireBackSaid : Prop := wireBackRow.holds Try.pinned (OpenSpec.ofChange wireBackSpec)

/-- ITS FALSE NEIGHBOUR: 'it returns false'. Refute it at one input. -/
def wireBackWrong : ChangeSpec := { name := "wireBack", fn := fun _ => fun
  | [d1, d2, d3] => { results := [.lit (.bool false)], args := [d1, d2, d3] }
  | _ => none }
def WireBackWrongFalsely : Prop := wireBackRow.holds Try.pinned (OpenSpec.ofChange wireBackWrong)

/-- 'tallyrollkeep.WireJoins': WHATEVER THE INPUT: true; the input reads as it did. -/
def wireJoinsSpec : ChangeSpec := { name := "wireJoins", fn := fun _ => fun
  | [d1, d2] => { results := [.lit (.bool true)], args := [d1, d2] }
  | _ => none }
def wireJoinsRow : OpenClaim := { program := "ytgcnkcajfjpbcaa", sum := "2a08333a76a5b26edffe34162137dc856b9ee3abdf954b0750ad914d0274d600", func := "tallyroll/tallyrollkeep.WireJoins", spec := "wireJoins", inPlace := ["internal/abi.NoEscape"], unfollowed := true, recurses := true, apart := false }
def WireJoinsSaid : Prop := wireJoinsRow.holds Try.pinned (OpenSpec.ofChange wireJoinsSpec)

/-- ITS FALSE NEIGHBOUR: 'it returns false'. Refute it at one input. -/
def wireJoinsWrong : ChangeSpec := { name := "wireJoins", fn := fun _ => fun
  | [d1, d2] => { results := [.lit (.bool false)], args := [d1, d2] }
  | _ => none }
def WireJoinsWrongFalsely : Prop := wireJoinsRow.holds Try.pinned (OpenSpec.ofChange wireJoinsWrong)

/-- 'tallyrollkeep.MarkAlike': WHATEVER THE INPUT: true; the input reads as it did. -/
def markAlikeSpec : ChangeSpec := { name := "markAlike", fn := fun _ => fun
  | [d1, d2, d3] => { results := [.lit (.bool true)], args := [d1, d2, d3] }
  | _ => none }
def markAlikeRow : OpenClaim := { program := "ytgcnkcajfjpbcaa", sum := "2a08333a76a5b26edffe34162137dc856b9ee3abdf954b0750ad914d0274d600", func := "tallyroll/tallyrollkeep.MarkAlike", spec := "markAlike", named := ["math/bits.divideError", "math/bits.overflowError"], apart := false }
def MarkAlikeSaid : Prop := markAlikeRow.holds Try.pinned (OpenSpec.ofChange markAlikeSpec)

/-- ITS FALSE NEIGHBOUR: 'it returns false'. Refute it at one input. -/
def markAlikeWrong : ChangeSpec := { name := "markAlike", fn := fun _ => fun
  | [d1, d2, d3] => { results := [.lit (.bool false)], args := [d1, d2, d3] }
  | _ => none }
def MarkAlikeWrongFalsely : Prop := markAlikeRow.holds Try.pinned (OpenSpec.ofChange markAlikeWrong)

/-- 'tallyrollkeep.MarkJoins': WHATEVER THE INPUT: true; the input reads as it did. -/
def markJoinsSpec : ChangeSpec := { name := "markJoins", fn := fun _ => fun
  | [d1, d2] => { results := [.lit (.bool true)], args := [d1, d2] }
  | _ => none }
def markJoinsRow : OpenClaim := { program := "ytgcnkcajfjpbcaa", sum := "2a08333a76a5b26edffe34162137dc856b9ee3abdf954b0750ad914d0274d600", func := "tallyroll/tallyrollkeep.MarkJoins", spec := "markJoins", named := ["math/bits.divideError", "math/bits.overflowError"], apart := false }
def MarkJoinsSaid : Prop := markJoinsRow.holds Try.pinned (OpenSpec.ofChange markJoinsSpec)

/-- ITS FALSE NEIGHBOUR: 'it returns false'. Refute it at one input. -/
def markJoinsWrong : ChangeSpec := { name := "markJoins", fn := fun _ => fun
  | [d1, d2] => { results := [.lit (.bool false)], args := [d1, d2] }
  | _ => none }
def MarkJoinsWrongFalsely : Prop := markJoinsRow.holds Try.pinned (OpenSpec.ofChange markJoinsWrong)

/-- 'tallyrollkeep.MarkSaid': WHATEVER THE INPUT: true; the input reads as it did. -/
def markSaidSpec : ChangeSpec := { name := "markSaid", fn := fun _ => fun
  | [d1, d2, d3, d4, d5, d6] => { results := [.lit (.bool true)], args := [d1, d2, d3, d4, d5, d6] }
  | _ => none }
def markSaidRow : OpenClaim := { program := "ytgcnkcajfjpbcaa", sum := "2a08333a76a5b26edffe34162137dc856b9ee3abdf954b0750ad914d0274d600", func := "tallyroll/tallyrollkeep.MarkSaid", spec := "markSaid", named := ["math/bits.divideError", "math/bits.overflowError"], apart := false }
def MarkSaidSaid : Prop := markSaidRow.holds Try.pinned (OpenSpec.ofChange markSaidSpec)

/-- ITS FALSE NEIGHBOUR: 'it returns false'. Refute it at one input. -/
def markSaidWrong : ChangeSpec := { name := "markSaid", fn := fun _ => fun
  | [d1, d2, d3, d4, d5, d6] => { results := [.lit (.bool false)], args := [d1, d2, d3, d4, d5, d6] }
  | _ => none }
def MarkSaidWrongFalsely : Prop := markSaidRow.holds Try.pinned (OpenSpec.ofChange markSaidWrong)

/-- 'tallyrollkeep.QueueOrder': WHATEVER THE INPUT: true; the input reads as it did. -/
def queueOrderSpec : ChangeSpec := { name := "queueOrder", fn := fun _ => fun
  | [d1, d2, d3] => { results := [.lit (.bool true)], args := [d1, d2, d3] }
  | _ => none }
def queueOrderRow : OpenClaim := { program := "ytgcnkcajfjpbcaa", sum := "2a08333a76a5b26edffe34162137dc856b9ee3abdf954b0750ad914d0274d600", func := "tallyroll/tallyrollkeep.QueueOrder", spec := "queueOrder", unfollowed := true, recurses := true, apart := false }
def QueueOrderSaid : Prop := queueOrderRow.holds Try.pinned (OpenSpec.ofChange queueOrderSpec)

/-- ITS FALSE NEIGHBOUR: 'it returns false'. Refute it at one input. -/
def queueOrderWrong : ChangeSpec := { name := "queueOrder", fn := fun _ => fun
  | [d1, d2, d3] => { results := [.lit (.bool false)], args := [d1, d2, d3] }
  | _ => none }
def QueueOrderWrongFalsely : Prop := queueOrderRow.holds Try.pinned (OpenSpec.ofChange queueOrderWrong)

/-- 'tallyrollkeep.HeadNext': WHATEVER THE INPUT: true; the input reads as it did. -/
def headNextSpec : ChangeSpec := { name := "headNext", fn := fun _ => fun
  | [d1, d2, d3, d4] => { results := [.lit (.bool true)], args := [d1, d2, d3, d4] }
  | _ => none }
def headNextRow : OpenClaim := { program := "ytgcnkcajfjpbcaa", sum := "2a08333a76a5b26edffe34162137dc856b9ee3abdf954b0750ad914d0274d600", func := "tallyroll/tallyrollkeep.HeadNext", spec := "headNext", unfollowed := true, recurses := true, named := ["math/bits.divideError", "math/bits.overflowError"], apart := false }
def HeadNextSaid : Prop := headNextRow.holds Try.pinned (OpenSpec.ofChange headNextSpec)

/-- ITS FALSE NEIGHBOUR: 'it returns false'. Refute it at one input. -/
def headNextWrong : ChangeSpec := { name := "headNext", fn := fun _ => fun
  | [d1, d2, d3, d4] => { results := [.lit (.bool false)], args := [d1, d2, d3, d4] }
  | _ => none }
def HeadNextWrongFalsely : Prop := headNextRow.holds Try.pinned (OpenSpec.ofChange headNextWrong)

/-- 'tallyrollkeep.TagHolds': WHATEVER THE INPUT: true; the input reads as it did. -/
def tagHoldsSpec : ChangeSpec := { name := "tagHolds", fn := fun _ => fun
  | [d1, d2, d3, d4] => { results := [.lit (.bool true)], args := [d1, d2, d3, d4] }
  | _ => none }
def tagHoldsRow : OpenClaim := { program := "ytgcnkcajfjpbcaa", sum := "2a08333a76a5b26edffe34162137dc856b9ee3abdf954b0750ad914d0274d600", func := "tallyroll/tallyrollkeep.TagHolds", spec := "tagHolds", inPlace := ["internal/abi.NoEscape"], unfollowed := true, recurses := true, named := ["math/bits.divideError", "math/bits.overflowError"], apart := false }
def TagHoldsSaid : Prop := tagHoldsRow.holds Try.pinned (OpenSpec.ofChange tagHoldsSpec)

/-- ITS FALSE NEIGHBOUR: 'it returns false'. Refute it at one input. -/
def tagHoldsWrong : ChangeSpec := { name := "tagHolds", fn := fun _ => fun
  | [d1, d2, d3, d4] => { results := [.lit (.bool false)], args := [d1, d2, d3, d4] }
  | _ => none }
def TagHoldsWrongFalsely : Prop := tagHoldsRow.holds Try.pinned (OpenSpec.ofChange tagHoldsWrong)

/- THE SECOND FORM. 'bulk': how many values and letters a reading holds, each counted each time it is reached (what is shared counts as often as it is met; a slice's spare places count too). A statement '..UptoSaid' is the law's where the arguments, and the package variables that the reading takes, are together of bulk at most 1048576: NARROWER than '..Said'. Prove '..Said' where nothing that the law and all that it calls make is longer than what came in: it says more and counts as full. Else prove '..UptoSaid'. A law counts once. -/
mutual
def uptoBulk {H : Type} : DataW H → Nat
  | .lit (.string bytes) => bytes.length + 1
  | .lit _ => 1
  | .nil => 1
  | .ptr d => uptoBulk d + 1
  | .slice elems spare => uptoBulkAll elems + uptoBulkAll spare + 1
  | .agg parts => uptoBulkAll parts + 1
  | .iface _ d => uptoBulk d + 1
  | .map entries => uptoBulkEntries entries + 1
  | .held _ => 1
def uptoBulkAll {H : Type} : List (DataW H) → Nat
  | [] => 0
  | d :: r => uptoBulk d + uptoBulkAll r
def uptoBulkEntries {H : Type} : List (Lit × DataW H) → Nat
  | [] => 0
  | x :: r => uptoBulkEntry x + uptoBulkEntries r
def uptoBulkEntry {H : Type} : Lit × DataW H → Nat
  | (.string bytes, d) => bytes.length + uptoBulk d + 1
  | (_, d) => uptoBulk d + 1
 end
def uptoSmall : (H : Type) → List (DataW H) → Bool := fun _ ds => decide (uptoBulkAll ds ≤ 1048576)
def OpenSpec.upto (s : _root_.Go.ChangeSpec) : _root_.Go.OpenSpec := { _root_.Go.OpenSpec.ofChange s with cond := some uptoSmall }

/-- 'tallyrollkeep.PollWaits', WHERE WHAT IT READS IS OF BULK AT MOST 1048576: true; the input reads as it did. -/
def pollWaitsUptoRow : OpenClaim := { program := "ytgcnkcajfjpbcaa", sum := "2a08333a76a5b26edffe34162137dc856b9ee3abdf954b0750ad914d0274d600", func := "tallyroll/tallyrollkeep.PollWaits", spec := "pollWaits", apart := false, narrowed := true }
def PollWaitsUptoSaid : Prop := pollWaitsUptoRow.holds Try.pinned (OpenSpec.upto pollWaitsSpec)

/-- 'tallyrollkeep.HeadBack', WHERE WHAT IT READS IS OF BULK AT MOST 1048576: true; the input reads as it did. -/
def headBackUptoRow : OpenClaim := { program := "ytgcnkcajfjpbcaa", sum := "2a08333a76a5b26edffe34162137dc856b9ee3abdf954b0750ad914d0274d600", func := "tallyroll/tallyrollkeep.HeadBack", spec := "headBack", apart := false, narrowed := true }
def HeadBackUptoSaid : Prop := headBackUptoRow.holds Try.pinned (OpenSpec.upto headBackSpec)

/-- 'tallyrollkeep.PollGone', WHERE WHAT IT READS IS OF BULK AT MOST 1048576: true; the input reads as it did. -/
def pollGoneUptoRow : OpenClaim := { program := "ytgcnkcajfjpbcaa", sum := "2a08333a76a5b26edffe34162137dc856b9ee3abdf954b0750ad914d0274d600", func := "tallyroll/tallyrollkeep.PollGone", spec := "pollGone", unfollowed := true, recurses := true, apart := false, narrowed := true }
def PollGoneUptoSaid : Prop := pollGoneUptoRow.holds Try.pinned (OpenSpec.upto pollGoneSpec)

/-- 'tallyrollkeep.NetOwn', WHERE WHAT IT READS IS OF BULK AT MOST 1048576: true; the input reads as it did. -/
def netOwnUptoRow : OpenClaim := { program := "ytgcnkcajfjpbcaa", sum := "2a08333a76a5b26edffe34162137dc856b9ee3abdf954b0750ad914d0274d600", func := "tallyroll/tallyrollkeep.NetOwn", spec := "netOwn", unfollowed := true, recurses := true, apart := false, narrowed := true }
def NetOwnUptoSaid : Prop := netOwnUptoRow.holds Try.pinned (OpenSpec.upto netOwnSpec)

/-- 'tallyrollkeep.QueueWaits', WHERE WHAT IT READS IS OF BULK AT MOST 1048576: true; the input reads as it did. -/
def queueWaitsUptoRow : OpenClaim := { program := "ytgcnkcajfjpbcaa", sum := "2a08333a76a5b26edffe34162137dc856b9ee3abdf954b0750ad914d0274d600", func := "tallyroll/tallyrollkeep.QueueWaits", spec := "queueWaits", unfollowed := true, recurses := true, apart := false, narrowed := true }
def QueueWaitsUptoSaid : Prop := queueWaitsUptoRow.holds Try.pinned (OpenSpec.upto queueWaitsSpec)

/-- 'tallyrollkeep.NetComes', WHERE WHAT IT READS IS OF BULK AT MOST 1048576: true; the input reads as it did. -/
def netComesUptoRow : OpenClaim := { program := "ytgcnkcajfjpbcaa", sum := "2a08333a76a5b26edffe34162137dc856b9ee3abdf954b0750ad914d0274d600", func := "tallyroll/tallyrollkeep.NetComes", spec := "netComes", unfollowed := true, recurses := true, apart := false, narrowed := true }
def NetComesUptoSaid : Prop := netComesUptoRow.holds Try.pinned (OpenSpec.upto netComesSpec)

/-- 'tallyrollkeep.WireBack', WHERE WHAT IT READS IS OF BULK AT MOST 1048576: true; the input reads as it did. -/
def wireBackUptoRow : OpenClaim := { program := "ytgcnkcajfjpbcaa", sum := "2a08333a76a5b26edffe34162137dc856b9ee3abdf954b0750ad914d0274d600", func := "tallyroll/tallyrollkeep.WireBack", spec := "wireBack", inPlace := ["internal/abi.NoEscape"], apart := false, narrowed := true }
def WireBackUptoSaid : Prop := wireBackUptoRow.holds Try.pinned (OpenSpec.upto wireBackSpec)

/-- 'tallyrollkeep.WireJoins', WHERE WHAT IT READS IS OF BULK AT MOST 1048576: true; the input reads as it did. -/
def wireJoinsUptoRow : OpenClaim := { program := "ytgcnkcajfjpbcaa", sum := "2a08333a76a5b26edffe34162137dc856b9ee3abdf954b0750ad914d0274d600", func := "tallyroll/tallyrollkeep.WireJoins", spec := "wireJoins", inPlace := ["internal/abi.NoEscape"], unfollowed := true, recurses := true, apart := false, narrowed := true }
def WireJoinsUptoSaid : Prop := wireJoinsUptoRow.holds Try.pinned (OpenSpec.upto wireJoinsSpec)

/-- 'tallyrollkeep.MarkAlike', WHERE WHAT IT READS IS OF BULK AT MOST 1048576: true; the input reads as it did. -/
def markAlikeUptoRow : OpenClaim := { program := "ytgcnkcajfjpbcaa", sum := "2a08333a76a5b26edffe34162137dc856b9ee3abdf954b0750ad914d0274d600", func := "tallyroll/tallyrollkeep.MarkAlike", spec := "markAlike", named := ["math/bits.divideError", "math/bits.overflowError"], apart := false, narrowed := true }
def MarkAlikeUptoSaid : Prop := markAlikeUptoRow.holds Try.pinned (OpenSpec.upto markAlikeSpec)

/-- 'tallyrollkeep.MarkJoins', WHERE WHAT IT READS IS OF BULK AT MOST 1048576: true; the input reads as it did. -/
def markJoinsUptoRow : OpenClaim := { program := "ytgcnkcajfjpbcaa", sum := "2a08333a76a5b26edffe34162137dc856b9ee3abdf954b0750ad914d0274d600", func := "tallyroll/tallyrollkeep.MarkJoins", spec := "markJoins", named := ["math/bits.divideError", "math/bits.overflowError"], apart := false, narrowed := true }
def MarkJoinsUptoSaid : Prop := markJoinsUptoRow.holds Try.pinned (OpenSpec.upto markJoinsSpec)

/-- 'tallyrollkeep.MarkSaid', WHERE WHAT IT READS IS OF BULK AT MOST 1048576: true; the input reads as it did. -/
def markSaidUptoRow : OpenClaim := { program := "ytgcnkcajfjpbcaa", sum := "2a08333a76a5b26edffe34162137dc856b9ee3abdf954b0750ad914d0274d600", func := "tallyroll/tallyrollkeep.MarkSaid", spec := "markSaid", named := ["math/bits.divideError", "math/bits.overflowError"], apart := false, narrowed := true }
def MarkSaidUptoSaid : Prop := markSaidUptoRow.holds Try.pinned (OpenSpec.upto markSaidSpec)

/-- 'tallyrollkeep.QueueOrder', WHERE WHAT IT READS IS OF BULK AT MOST 1048576: true; the input reads as it did. -/
def queueOrderUptoRow : OpenClaim := { program := "ytgcnkcajfjpbcaa", sum := "2a08333a76a5b26edffe34162137dc856b9ee3abdf954b0750ad914d0274d600", func := "tallyroll/tallyrollkeep.QueueOrder", spec := "queueOrder", unfollowed := true, recurses := true, apart := false, narrowed := true }
def QueueOrderUptoSaid : Prop := queueOrderUptoRow.holds Try.pinned (OpenSpec.upto queueOrderSpec)

/-- 'tallyrollkeep.HeadNext', WHERE WHAT IT READS IS OF BULK AT MOST 1048576: true; the input reads as it did. -/
def headNextUptoRow : OpenClaim := { program := "ytgcnkcajfjpbcaa", sum := "2a08333a76a5b26edffe34162137dc856b9ee3abdf954b0750ad914d0274d600", func := "tallyroll/tallyrollkeep.HeadNext", spec := "headNext", unfollowed := true, recurses := true, named := ["math/bits.divideError", "math/bits.overflowError"], apart := false, narrowed := true }
def HeadNextUptoSaid : Prop := headNextUptoRow.holds Try.pinned (OpenSpec.upto headNextSpec)

/-- 'tallyrollkeep.TagHolds', WHERE WHAT IT READS IS OF BULK AT MOST 1048576: true; the input reads as it did. -/
def tagHoldsUptoRow : OpenClaim := { program := "ytgcnkcajfjpbcaa", sum := "2a08333a76a5b26edffe34162137dc856b9ee3abdf954b0750ad914d0274d600", func := "tallyroll/tallyrollkeep.TagHolds", spec := "tagHolds", inPlace := ["internal/abi.NoEscape"], unfollowed := true, recurses := true, named := ["math/bits.divideError", "math/bits.overflowError"], apart := false, narrowed := true }
def TagHoldsUptoSaid : Prop := tagHoldsUptoRow.holds Try.pinned (OpenSpec.upto tagHoldsSpec)

end Rows
end Go.Proofs.Ytgcnkcajfjpbcaa
