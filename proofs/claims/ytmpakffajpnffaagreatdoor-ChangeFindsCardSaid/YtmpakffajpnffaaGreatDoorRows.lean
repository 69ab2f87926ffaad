/-
  NARROWER THAN 'FOR EVERY INPUT', by the rows' own cells (each row's printed sentence says how): ServeHolds: laid · ServeBinds: laid · ClerkDue: laid · ClerkRight: laid · ChangeNone: laid · ChangeFinds: laid · ChangeApplies: laid · ServeBack: laid · OwnerCalm: laid.
  DERIVED. THE GIVEN ROWS OF THIS SEAT. 9 by the template 'for every input the law returns true; each argument reads behind the call as it read before'; 0 by the template 'total and deterministic' (their statements: YtmpakffajpnffaaGreatDoorTotals.lean).
  GIVEN WITH THE SEED: the statements are not yours to turn. If you find one false, say at which input.
  Laid BY PROGRAM, IN A SANDBOX (cutbox-rows.mjs): the forced cells as the released guide's own fill.sh prints them over the translation a6c5bbbb4c94a4b2… (all of the seat's roots in one cut). By AI agents, Wed Nov 11 2026. No macro, syntax, notation, axiom, sorry.
-/
import Derived.Test.YtmpakffajpnffaaGreatDoorChecked
import GoSem.PinnedTables
import GoSem.Claim
import GoSem.ClaimJoined
import GoSem.ClaimMapViews
import Derived.JoinedTies
import Derived.KernelRfl
namespace Go.Proofs.YtmpakffajpnffaaGreatDoor
/- THE CELL 'sum', in the pinned program and in every row, IS THE sha256 OF THE DUMP (.gsa) THAT YtmpakffajpnffaaGreatDoorProg.lean LOADS. Nothing in Lean hashes anything: it is a label: what it is worth is what the hold of that sum in a sandbox is worth. -/
noncomputable def Tryz.pinned : Pinned := { name := "ytmpakffajpnffaagreatdoor", sum := "a6c5bbbb4c94a4b204f668e6a13169a34c9b280053fe23a0a4033779ad48a6c9", checked := Tryz.checked }
namespace Rows
def none {H : Type} : Left H := { results := [], args := [] }

/- WHAT THE LISTED PACKAGE-LEVEL VARIABLES READ AS WHEN THE CALL BEGINS. Each datum BY PROGRAM (the guide's laid-datum.mjs) off the statement by which the dump's own 'gosem.cut.vars' lays the variable. In a bare row this is a premise. The card (YtmpakffajpnffaaGreatDoorCards.lean) ties it to the program's text. -/
def laid_unicode_utf8_acceptRanges {H : Type} : DataW H := .agg [.agg [.lit (.int .u8 128), .lit (.int .u8 191)], .agg [.lit (.int .u8 160), .lit (.int .u8 191)], .agg [.lit (.int .u8 128), .lit (.int .u8 159)], .agg [.lit (.int .u8 144), .lit (.int .u8 191)], .agg [.lit (.int .u8 128), .lit (.int .u8 143)], .agg [.lit (.int .u8 0), .lit (.int .u8 0)], .agg [.lit (.int .u8 0), .lit (.int .u8 0)], .agg [.lit (.int .u8 0), .lit (.int .u8 0)], .agg [.lit (.int .u8 0), .lit (.int .u8 0)], .agg [.lit (.int .u8 0), .lit (.int .u8 0)], .agg [.lit (.int .u8 0), .lit (.int .u8 0)], .agg [.lit (.int .u8 0), .lit (.int .u8 0)], .agg [.lit (.int .u8 0), .lit (.int .u8 0)], .agg [.lit (.int .u8 0), .lit (.int .u8 0)], .agg [.lit (.int .u8 0), .lit (.int .u8 0)], .agg [.lit (.int .u8 0), .lit (.int .u8 0)]]
/-- One of Go's own tables, pinned by name: the form's constant. -/
def laid_unicode_utf8_first : DataW Unit := Go.Pinned.utf8First

/-- 'tallyrollkeep.ServeHolds': WHATEVER THE INPUT: true; the input reads as it did. -/
def serveHoldsSpec : ChangeSpec := { name := "serveHolds", fn := fun _ => fun
  | [d1, d2, d3] => { results := [.lit (.bool true)], args := [d1, d2, d3] }
  | _ => none }
def serveHoldsRow : OpenClaim := { program := "ytmpakffajpnffaagreatdoor", sum := "a6c5bbbb4c94a4b204f668e6a13169a34c9b280053fe23a0a4033779ad48a6c9", func := "tallyroll/tallyrollkeep.ServeHolds", spec := "serveHolds", inPlace := ["internal/bytealg.IndexByteString", "internal/bytealg.IndexString", "internal/abi.NoEscape"], unfollowed := true, recurses := true, named := ["math/bits.divideError", "math/bits.overflowError", "unicode/utf8.first", "unicode/utf8.acceptRanges", "internal/bytealg.MaxLen"], apart := false, laid := [("unicode/utf8.acceptRanges", laid_unicode_utf8_acceptRanges), ("unicode/utf8.first", laid_unicode_utf8_first)] }
def ServeHoldsSaid : Prop := serveHoldsRow.holds Tryz.pinned (OpenSpec.ofChange serveHoldsSpec)

/-- ITS FALSE NEIGHBOUR: 'it returns false'. Refute it at one input. -/
def serveHoldsWrong : ChangeSpec := { name := "serveHolds", fn := fun _ => fun
  | [d1, d2, d3] => { results := [.lit (.bool false)], args := [d1, d2, d3] }
  | _ => none }
def ServeHoldsWrongFalsely : Prop := serveHoldsRow.holds Tryz.pinned (OpenSpec.ofChange serveHoldsWrong)

/-- 'tallyrollkeep.ServeBinds': WHATEVER THE INPUT: true; the input reads as it did. -/
def serveBindsSpec : ChangeSpec := { name := "serveBinds", fn := fun _ => fun
  | [d1, d2] => { results := [.lit (.bool true)], args := [d1, d2] }
  | _ => none }
def serveBindsRow : OpenClaim := { program := "ytmpakffajpnffaagreatdoor", sum := "a6c5bbbb4c94a4b204f668e6a13169a34c9b280053fe23a0a4033779ad48a6c9", func := "tallyroll/tallyrollkeep.ServeBinds", spec := "serveBinds", inPlace := ["internal/bytealg.IndexByteString", "internal/bytealg.IndexString", "internal/abi.NoEscape"], unfollowed := true, recurses := true, named := ["math/bits.divideError", "math/bits.overflowError", "unicode/utf8.first", "unicode/utf8.acceptRanges", "internal/bytealg.MaxLen"], apart := false, laid := [("unicode/utf8.acceptRanges", laid_unicode_utf8_acceptRanges), ("unicode/utf8.first", laid_unicode_utf8_first)] }
def ServeBindsSaid : Prop := serveBindsRow.holds Tryz.pinned (OpenSpec.ofChange serveBindsSpec)

/-- ITS FALSE NEIGHBOUR: 'it returns false'. Refute it at one input. -/
def serveBindsWrong : ChangeSpec := { name := "serveBinds", fn := fun _ => fun
  | [d1, d2] => { results := [.lit (.bool false)], args := [d1, d2] }
  | _ => none }
def ServeBindsWrongFalsely : Prop := serveBindsRow.holds Tryz.pinned (OpenSpec.ofChange serveBindsWrong)

/-- 'tallyrollkeep.ClerkDue': WHATEVER THE INPUT: true; the input reads as it did. -/
def clerkDueSpec : ChangeSpec := { name := "clerkDue", fn := fun _ => fun
  | [d1, d2, d3] => { results := [.lit (.bool true)], args := [d1, d2, d3] }
  | _ => none }
def clerkDueRow : OpenClaim := { program := "ytmpakffajpnffaagreatdoor", sum := "a6c5bbbb4c94a4b204f668e6a13169a34c9b280053fe23a0a4033779ad48a6c9", func := "tallyroll/tallyrollkeep.ClerkDue", spec := "clerkDue", inPlace := ["internal/bytealg.IndexByteString", "internal/bytealg.IndexString", "internal/abi.NoEscape", "slices.overlaps[tallyroll/api.Entry]"], unfollowed := true, recurses := true, named := ["math/bits.divideError", "math/bits.overflowError", "unicode/utf8.first", "unicode/utf8.acceptRanges", "internal/bytealg.MaxLen"], apart := false, laid := [("unicode/utf8.acceptRanges", laid_unicode_utf8_acceptRanges), ("unicode/utf8.first", laid_unicode_utf8_first)] }
def ClerkDueSaid : Prop := clerkDueRow.holds Tryz.pinned (OpenSpec.ofChange clerkDueSpec)

/-- ITS FALSE NEIGHBOUR: 'it returns false'. Refute it at one input. -/
def clerkDueWrong : ChangeSpec := { name := "clerkDue", fn := fun _ => fun
  | [d1, d2, d3] => { results := [.lit (.bool false)], args := [d1, d2, d3] }
  | _ => none }
def ClerkDueWrongFalsely : Prop := clerkDueRow.holds Tryz.pinned (OpenSpec.ofChange clerkDueWrong)

/-- 'tallyrollkeep.ClerkRight': WHATEVER THE INPUT: true; the input reads as it did. -/
def clerkRightSpec : ChangeSpec := { name := "clerkRight", fn := fun _ => fun
  | [d1, d2, d3] => { results := [.lit (.bool true)], args := [d1, d2, d3] }
  | _ => none }
def clerkRightRow : OpenClaim := { program := "ytmpakffajpnffaagreatdoor", sum := "a6c5bbbb4c94a4b204f668e6a13169a34c9b280053fe23a0a4033779ad48a6c9", func := "tallyroll/tallyrollkeep.ClerkRight", spec := "clerkRight", inPlace := ["internal/bytealg.IndexByteString", "internal/bytealg.IndexString", "internal/abi.NoEscape", "slices.overlaps[tallyroll/api.Entry]"], unfollowed := true, recurses := true, named := ["math/bits.divideError", "math/bits.overflowError", "unicode/utf8.first", "unicode/utf8.acceptRanges", "internal/bytealg.MaxLen"], apart := false, laid := [("unicode/utf8.acceptRanges", laid_unicode_utf8_acceptRanges), ("unicode/utf8.first", laid_unicode_utf8_first)] }
def ClerkRightSaid : Prop := clerkRightRow.holds Tryz.pinned (OpenSpec.ofChange clerkRightSpec)

/-- ITS FALSE NEIGHBOUR: 'it returns false'. Refute it at one input. -/
def clerkRightWrong : ChangeSpec := { name := "clerkRight", fn := fun _ => fun
  | [d1, d2, d3] => { results := [.lit (.bool false)], args := [d1, d2, d3] }
  | _ => none }
def ClerkRightWrongFalsely : Prop := clerkRightRow.holds Tryz.pinned (OpenSpec.ofChange clerkRightWrong)

/-- 'tallyrollkeep.ChangeNone': WHATEVER THE INPUT: true; the input reads as it did. -/
def changeNoneSpec : ChangeSpec := { name := "changeNone", fn := fun _ => fun
  | [d1, d2] => { results := [.lit (.bool true)], args := [d1, d2] }
  | _ => none }
def changeNoneRow : OpenClaim := { program := "ytmpakffajpnffaagreatdoor", sum := "a6c5bbbb4c94a4b204f668e6a13169a34c9b280053fe23a0a4033779ad48a6c9", func := "tallyroll/tallyrollkeep.ChangeNone", spec := "changeNone", inPlace := ["internal/bytealg.IndexByteString", "internal/bytealg.IndexString", "internal/abi.NoEscape"], unfollowed := true, recurses := true, named := ["math/bits.divideError", "math/bits.overflowError", "unicode/utf8.first", "unicode/utf8.acceptRanges", "internal/bytealg.MaxLen"], apart := false, laid := [("unicode/utf8.acceptRanges", laid_unicode_utf8_acceptRanges), ("unicode/utf8.first", laid_unicode_utf8_first)] }
def ChangeNoneSaid : Prop := changeNoneRow.holds Tryz.pinned (OpenSpec.ofChange changeNoneSpec)

/-- ITS FALSE NEIGHBOUR: 'it returns false'. Refute it at one input. -/
def changeNoneWrong : ChangeSpec := { name := "changeNone", fn := fun _ => fun
  | [d1, d2] => { results := [.lit (.bool false)], args := [d1, d2] }
  | _ => none }
def ChangeNoneWrongFalsely : Prop := changeNoneRow.holds Tryz.pinned (OpenSpec.ofChange changeNoneWrong)

/-- 'tallyrollkeep.ChangeFinds': WHATEVER THE INPUT: true; the input reads as it did. -/
def changeFindsSpec : ChangeSpec := { name := "changeFinds", fn := fun _ => fun
  | [d1, d2] => { results := [.lit (.bool true)], args := [d1, d2] }
  | _ => none }
def changeFindsRow : OpenClaim := { program := "ytmpakffajpnffaagreatdoor", sum := "a6c5bbbb4c94a4b204f668e6a13169a34c9b280053fe23a0a4033779ad48a6c9", func := "tallyroll/tallyrollkeep.ChangeFinds", spec := "changeFinds", inPlace := ["internal/bytealg.IndexByteString", "internal/bytealg.IndexString", "internal/abi.NoEscape"], unfollowed := true, recurses := true, named := ["math/bits.divideError", "math/bits.overflowError", "unicode/utf8.first", "unicode/utf8.acceptRanges", "internal/bytealg.MaxLen"], apart := false, laid := [("unicode/utf8.acceptRanges", laid_unicode_utf8_acceptRanges), ("unicode/utf8.first", laid_unicode_utf8_first)] }
def ChangeFindsSaid : Prop := changeFindsRow.holds Tryz.pinned (OpenSpec.ofChange changeFindsSpec)

/-- ITS FALSE NEIGHBOUR: 'it returns false'. Refute it at one input. -/
def changeFindsWrong : ChangeSpec := { name := "changeFinds", fn := fun _ => fun
  | [d1, d2] => { results := [.lit (.bool false)], args := [d1, d2] }
  | _ => none }
def ChangeFindsWrongFalsely : Prop := changeFindsRow.holds Tryz.pinned (OpenSpec.ofChange changeFindsWrong)

/-- 'tallyrollkeep.ChangeApplies': WHATEVER THE INPUT: true; the input reads as it did. -/
def changeAppliesSpec : ChangeSpec := { name := "changeApplies", fn := fun _ => fun
  | [d1, d2] => { results := [.lit (.bool true)], args := [d1, d2] }
  | _ => none }
def changeAppliesRow : OpenClaim := { program := "ytmpakffajpnffaagreatdoor", sum := "a6c5bbbb4c94a4b204f668e6a13169a34c9b280053fe23a0a4033779ad48a6c9", func := "tallyroll/tallyrollkeep.ChangeApplies", spec := "changeApplies", inPlace := ["internal/bytealg.IndexByteString", "internal/bytealg.IndexString", "internal/abi.NoEscape", "slices.overlaps[tallyroll/api.Entry]"], unfollowed := true, recurses := true, named := ["math/bits.divideError", "math/bits.overflowError", "unicode/utf8.first", "unicode/utf8.acceptRanges", "internal/bytealg.MaxLen"], apart := false, laid := [("unicode/utf8.acceptRanges", laid_unicode_utf8_acceptRanges), ("unicode/utf8.first", laid_unicode_utf8_first)] }
def ChangeAppliesSaid : Prop := changeAppliesRow.holds Tryz.pinned (OpenSpec.ofChange changeAppliesSpec)

/-- ITS FALSE NEIGHBOUR: 'it returns false'. Refute it at one input. -/
def changeAppliesWrong : ChangeSpec := { name := "changeApplies", fn := fun _ => fun
  | [d1, d2] => { results := [.lit (.bool false)], args := [d1, d2] }
  | _ => none }
def ChangeAppliesWrongFalsely : Prop := changeAppliesRow.holds Tryz.pinned (OpenSpec.ofChange changeAppliesWrong)

/-- 'tallyrollkeep.ServeBack': WHATEVER THE INPUT: true; the input reads as it did. -/
def serveBackSpec : ChangeSpec := { name := "serveBack", fn := fun _ => fun
  | [d1, d2] => { results := [.lit (.bool true)], args := [d1, d2] }
  | _ => none }
def serveBackRow : OpenClaim := { program := "ytmpakffajpnffaagreatdoor", sum := "a6c5bbbb4c94a4b204f668e6a13169a34c9b280053fe23a0a4033779ad48a6c9", func := "tallyroll/tallyrollkeep.ServeBack", spec := "serveBack", inPlace := ["internal/bytealg.IndexByteString", "internal/bytealg.IndexString", "internal/abi.NoEscape"], unfollowed := true, recurses := true, named := ["math/bits.divideError", "math/bits.overflowError", "unicode/utf8.first", "unicode/utf8.acceptRanges", "internal/bytealg.MaxLen"], apart := false, laid := [("unicode/utf8.acceptRanges", laid_unicode_utf8_acceptRanges), ("unicode/utf8.first", laid_unicode_utf8_first)] }
def ServeBackSaid : Prop := serveBackRow.holds Tryz.pinned (OpenSpec.ofChange serveBackSpec)

/-- ITS FALSE NEIGHBOUR: 'it returns false'. Refute it at one input. -/
def serveBackWrong : ChangeSpec := { name := "serveBack", fn := fun _ => fun
  | [d1, d2] => { results := [.lit (.bool false)], args := [d1, d2] }
  | _ => none }
def ServeBackWrongFalsely : Prop := serveBackRow.holds Tryz.pinned (OpenSpec.ofChange serveBackWrong)

/-- 'tallyrollkeep.OwnerCalm': WHATEVER THE INPUT: true; the input reads as it did. -/
def ownerCalmSpec : ChangeSpec := { name := "ownerCalm", fn := fun _ => fun
  | [d1, d2, d3, d4] => { results := [.lit (.bool true)], args := [d1, d2, d3, d4] }
  | _ => none }
def ownerCalmRow : OpenClaim := { program := "ytmpakffajpnffaagreatdoor", sum := "a6c5bbbb4c94a4b204f668e6a13169a34c9b280053fe23a0a4033779ad48a6c9", func := "tallyroll/tallyrollkeep.OwnerCalm", spec := "ownerCalm", inPlace := ["internal/bytealg.IndexByteString", "internal/bytealg.IndexString", "internal/abi.NoEscape", "slices.overlaps[tallyroll/api.Entry]"], unfollowed := true, recurses := true, named := ["math/bits.divideError", "math/bits.overflowError", "unicode/utf8.first", "unicode/utf8.acceptRanges", "internal/bytealg.MaxLen"], apart := false, laid := [("unicode/utf8.acceptRanges", laid_unicode_utf8_acceptRanges), ("unicode/utf8.first", laid_unicode_utf8_first)] }
def OwnerCalmSaid : Prop := ownerCalmRow.holds Tryz.pinned (OpenSpec.ofChange ownerCalmSpec)

/-- ITS FALSE NEIGHBOUR: 'it returns false'. Refute it at one input. -/
def ownerCalmWrong : ChangeSpec := { name := "ownerCalm", fn := fun _ => fun
  | [d1, d2, d3, d4] => { results := [.lit (.bool false)], args := [d1, d2, d3, d4] }
  | _ => none }
def OwnerCalmWrongFalsely : Prop := ownerCalmRow.holds Tryz.pinned (OpenSpec.ofChange ownerCalmWrong)

/- THE SECOND FORM. 'bulk': how many values and letters a reading holds, each counted each time it is reached (what is shared counts as often as it is met; a slice's spare places count too). A statement '..UptoSaid' is the law's where the arguments, and the package variables that the reading takes, are together of bulk at most 1048576: NARROWER than '..Said'. Prove '..Said' where nothing that the law and all that it calls make is longer than what came in: it says more and counts as full. Else prove '..UptoSaid'. A law counts once. -/
mutual
def uptoBulk {H : Type} : DataW H → Nat
  | .lit (.string bytes) => bytes.length + 1
  | .lit _ => 1
  | .nil => 1
  | .ptr d => uptoBulk d + 1
  | .slice elems spare => uptoBulkAll elems + uptoBulkAll spare + 1
  | .agg parts => uptoBulkAll parts + 1
  | .iface _ d => uptoBulk d + 1
  | .map entries => uptoBulkEntries entries + 1
  | .held _ => 1
def uptoBulkAll {H : Type} : List (DataW H) → Nat
  | [] => 0
  | d :: r => uptoBulk d + uptoBulkAll r
def uptoBulkEntries {H : Type} : List (Lit × DataW H) → Nat
  | [] => 0
  | x :: r => uptoBulkEntry x + uptoBulkEntries r
def uptoBulkEntry {H : Type} : Lit × DataW H → Nat
  | (.string bytes, d) => bytes.length + uptoBulk d + 1
  | (_, d) => uptoBulk d + 1
 end
def uptoSmall : (H : Type) → List (DataW H) → Bool := fun _ ds => decide (uptoBulkAll ds ≤ 1048576)
def OpenSpec.upto (s : _root_.Go.ChangeSpec) : _root_.Go.OpenSpec := { _root_.Go.OpenSpec.ofChange s with cond := some uptoSmall }

/-- 'tallyrollkeep.ServeHolds', WHERE WHAT IT READS IS OF BULK AT MOST 1048576: true; the input reads as it did. -/
def serveHoldsUptoRow : OpenClaim := { program := "ytmpakffajpnffaagreatdoor", sum := "a6c5bbbb4c94a4b204f668e6a13169a34c9b280053fe23a0a4033779ad48a6c9", func := "tallyroll/tallyrollkeep.ServeHolds", spec := "serveHolds", inPlace := ["internal/bytealg.IndexByteString", "internal/bytealg.IndexString", "internal/abi.NoEscape"], unfollowed := true, recurses := true, named := ["math/bits.divideError", "math/bits.overflowError", "unicode/utf8.first", "unicode/utf8.acceptRanges", "internal/bytealg.MaxLen"], apart := false, laid := [("unicode/utf8.acceptRanges", laid_unicode_utf8_acceptRanges), ("unicode/utf8.first", laid_unicode_utf8_first)], narrowed := true }
def ServeHoldsUptoSaid : Prop := serveHoldsUptoRow.holds Tryz.pinned (OpenSpec.upto serveHoldsSpec)

/-- 'tallyrollkeep.ServeBinds', WHERE WHAT IT READS IS OF BULK AT MOST 1048576: true; the input reads as it did. -/
def serveBindsUptoRow : OpenClaim := { program := "ytmpakffajpnffaagreatdoor", sum := "a6c5bbbb4c94a4b204f668e6a13169a34c9b280053fe23a0a4033779ad48a6c9", func := "tallyroll/tallyrollkeep.ServeBinds", spec := "serveBinds", inPlace := ["internal/bytealg.IndexByteString", "internal/bytealg.IndexString", "internal/abi.NoEscape"], unfollowed := true, recurses := true, named := ["math/bits.divideError", "math/bits.overflowError", "unicode/utf8.first", "unicode/utf8.acceptRanges", "internal/bytealg.MaxLen"], apart := false, laid := [("unicode/utf8.acceptRanges", laid_unicode_utf8_acceptRanges), ("unicode/utf8.first", laid_unicode_utf8_first)], narrowed := true }
def ServeBindsUptoSaid : Prop := serveBindsUptoRow.holds Tryz.pinned (OpenSpec.upto serveBindsSpec)

/-- 'tallyrollkeep.ClerkDue', WHERE WHAT IT READS IS OF BULK AT MOST 1048576: true; the input reads as it did. -/
def clerkDueUptoRow : OpenClaim := { program := "ytmpakffajpnffaagreatdoor", sum := "a6c5bbbb4c94a4b204f668e6a13169a34c9b280053fe23a0a4033779ad48a6c9", func := "tallyroll/tallyrollkeep.ClerkDue", spec := "clerkDue", inPlace := ["internal/bytealg.IndexByteString", "internal/bytealg.IndexString", "internal/abi.NoEscape", "slices.overlaps[tallyroll/api.Entry]"], unfollowed := true, recurses := true, named := ["math/bits.divideError", "math/bits.overflowError", "unicode/utf8.first", "unicode/utf8.acceptRanges", "internal/bytealg.MaxLen"], apart := false, laid := [("unicode/utf8.acceptRanges", laid_unicode_utf8_acceptRanges), ("unicode/utf8.first", laid_unicode_utf8_first)], narrowed := true }
def ClerkDueUptoSaid : Prop := clerkDueUptoRow.holds Tryz.pinned (OpenSpec.upto clerkDueSpec)

/-- 'tallyrollkeep.ClerkRight', WHERE WHAT IT READS IS OF BULK AT MOST 1048576: true; the input reads as it did. -/
def clerkRightUptoRow : OpenClaim := { program := "ytmpakffajpnffaagreatdoor", sum := "a6c5bbbb4c94a4b204f668e6a13169a34c9b280053fe23a0a4033779ad48a6c9", func := "tallyroll/tallyrollkeep.ClerkRight", spec := "clerkRight", inPlace := ["internal/bytealg.IndexByteString", "internal/bytealg.IndexString", "internal/abi.NoEscape", "slices.overlaps[tallyroll/api.Entry]"], unfollowed := true, recurses := true, named := ["math/bits.divideError", "math/bits.overflowError", "unicode/utf8.first", "unicode/utf8.acceptRanges", "internal/bytealg.MaxLen"], apart := false, laid := [("unicode/utf8.acceptRanges", laid_unicode_utf8_acceptRanges), ("unicode/utf8.first", laid_unicode_utf8_first)], narrowed := true }
def ClerkRightUptoSaid : Prop := clerkRightUptoRow.holds Tryz.pinned (OpenSpec.upto clerkRightSpec)

/-- 'tallyrollkeep.ChangeNone', WHERE WHAT IT READS IS OF BULK AT MOST 1048576: true; the input reads as it did. -/
def changeNoneUptoRow : OpenClaim := { program := "ytmpakffajpnffaagreatdoor", sum := "a6c5bbbb4c94a4b204f668e6a13169a34c9b280053fe23a0a4033779ad48a6c9", func := "tallyroll/tallyrollkeep.ChangeNone", spec := "changeNone", inPlace := ["internal/bytealg.IndexByteString", "internal/bytealg.IndexString", "internal/abi.NoEscape"], unfollowed := true, recurses := true, named := ["math/bits.divideError", "math/bits.overflowError", "unicode/utf8.first", "unicode/utf8.acceptRanges", "internal/bytealg.MaxLen"], apart := false, laid := [("unicode/utf8.acceptRanges", laid_unicode_utf8_acceptRanges), ("unicode/utf8.first", laid_unicode_utf8_first)], narrowed := true }
def ChangeNoneUptoSaid : Prop := changeNoneUptoRow.holds Tryz.pinned (OpenSpec.upto changeNoneSpec)

/-- 'tallyrollkeep.ChangeFinds', WHERE WHAT IT READS IS OF BULK AT MOST 1048576: true; the input reads as it did. -/
def changeFindsUptoRow : OpenClaim := { program := "ytmpakffajpnffaagreatdoor", sum := "a6c5bbbb4c94a4b204f668e6a13169a34c9b280053fe23a0a4033779ad48a6c9", func := "tallyroll/tallyrollkeep.ChangeFinds", spec := "changeFinds", inPlace := ["internal/bytealg.IndexByteString", "internal/bytealg.IndexString", "internal/abi.NoEscape"], unfollowed := true, recurses := true, named := ["math/bits.divideError", "math/bits.overflowError", "unicode/utf8.first", "unicode/utf8.acceptRanges", "internal/bytealg.MaxLen"], apart := false, laid := [("unicode/utf8.acceptRanges", laid_unicode_utf8_acceptRanges), ("unicode/utf8.first", laid_unicode_utf8_first)], narrowed := true }
def ChangeFindsUptoSaid : Prop := changeFindsUptoRow.holds Tryz.pinned (OpenSpec.upto changeFindsSpec)

/-- 'tallyrollkeep.ChangeApplies', WHERE WHAT IT READS IS OF BULK AT MOST 1048576: true; the input reads as it did. -/
def changeAppliesUptoRow : OpenClaim := { program := "ytmpakffajpnffaagreatdoor", sum := "a6c5bbbb4c94a4b204f668e6a13169a34c9b280053fe23a0a4033779ad48a6c9", func := "tallyroll/tallyrollkeep.ChangeApplies", spec := "changeApplies", inPlace := ["internal/bytealg.IndexByteString", "internal/bytealg.IndexString", "internal/abi.NoEscape", "slices.overlaps[tallyroll/api.Entry]"], unfollowed := true, recurses := true, named := ["math/bits.divideError", "math/bits.overflowError", "unicode/utf8.first", "unicode/utf8.acceptRanges", "internal/bytealg.MaxLen"], apart := false, laid := [("unicode/utf8.acceptRanges", laid_unicode_utf8_acceptRanges), ("unicode/utf8.first", laid_unicode_utf8_first)], narrowed := true }
def ChangeAppliesUptoSaid : Prop := changeAppliesUptoRow.holds Tryz.pinned (OpenSpec.upto changeAppliesSpec)

/-- 'tallyrollkeep.ServeBack', WHERE WHAT IT READS IS OF BULK AT MOST 1048576: true; the input reads as it did. -/
def serveBackUptoRow : OpenClaim := { program := "ytmpakffajpnffaagreatdoor", sum := "a6c5bbbb4c94a4b204f668e6a13169a34c9b280053fe23a0a4033779ad48a6c9", func := "tallyroll/tallyrollkeep.ServeBack", spec := "serveBack", inPlace := ["internal/bytealg.IndexByteString", "internal/bytealg.IndexString", "internal/abi.NoEscape"], unfollowed := true, recurses := true, named := ["math/bits.divideError", "math/bits.overflowError", "unicode/utf8.first", "unicode/utf8.acceptRanges", "internal/bytealg.MaxLen"], apart := false, laid := [("unicode/utf8.acceptRanges", laid_unicode_utf8_acceptRanges), ("unicode/utf8.first", laid_unicode_utf8_first)], narrowed := true }
def ServeBackUptoSaid : Prop := serveBackUptoRow.holds Tryz.pinned (OpenSpec.upto serveBackSpec)

/-- 'tallyrollkeep.OwnerCalm', WHERE WHAT IT READS IS OF BULK AT MOST 1048576: true; the input reads as it did. -/
def ownerCalmUptoRow : OpenClaim := { program := "ytmpakffajpnffaagreatdoor", sum := "a6c5bbbb4c94a4b204f668e6a13169a34c9b280053fe23a0a4033779ad48a6c9", func := "tallyroll/tallyrollkeep.OwnerCalm", spec := "ownerCalm", inPlace := ["internal/bytealg.IndexByteString", "internal/bytealg.IndexString", "internal/abi.NoEscape", "slices.overlaps[tallyroll/api.Entry]"], unfollowed := true, recurses := true, named := ["math/bits.divideError", "math/bits.overflowError", "unicode/utf8.first", "unicode/utf8.acceptRanges", "internal/bytealg.MaxLen"], apart := false, laid := [("unicode/utf8.acceptRanges", laid_unicode_utf8_acceptRanges), ("unicode/utf8.first", laid_unicode_utf8_first)], narrowed := true }
def OwnerCalmUptoSaid : Prop := ownerCalmUptoRow.holds Tryz.pinned (OpenSpec.upto ownerCalmSpec)

end Rows
end Go.Proofs.YtmpakffajpnffaaGreatDoor
