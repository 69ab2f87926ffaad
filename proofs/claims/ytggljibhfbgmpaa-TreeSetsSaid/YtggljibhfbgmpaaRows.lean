/-
  No cell of these rows narrows 'for every input' (looked for: loops, veiled, ifaces, maps, wideKeys, modest, calm, conditions, laid).
  DERIVED. THE GIVEN ROWS OF THIS SEAT. 14 by the template 'for every input the law returns true; each argument reads behind the call as it read before'; 0 by the template 'total and deterministic' (their statements: YtggljibhfbgmpaaTotals.lean).
  GIVEN WITH THE SEED: the statements are not yours to turn. If you find one false, say at which input.
  Laid BY PROGRAM, IN A SANDBOX (cutbox-rows.mjs): the forced cells as the released guide's own fill.sh prints them over the translation f356c3a05fb203d7… (all of the seat's roots in one cut). By AI agents, Wed Nov 11 2026. No macro, syntax, notation, axiom, sorry.
-/
import Derived.Test.YtggljibhfbgmpaaChecked
import GoSem.Claim
import GoSem.ClaimJoined
import GoSem.ClaimMapViews
import Derived.JoinedTies
import Derived.KernelRfl
namespace Go.Proofs.Ytggljibhfbgmpaa
/- THE CELL 'sum', in the pinned program and in every row, IS THE sha256 OF THE DUMP (.gsa) THAT YtggljibhfbgmpaaProg.lean LOADS. Nothing in Lean hashes anything: it is a label: what it is worth is what the hold of that sum in a sandbox is worth. -/
noncomputable def Try.pinned : Pinned := { name := "ytggljibhfbgmpaa", sum := "f356c3a05fb203d7218bac5a76cfbe25ef408e0521bf537a4efb395152816279", checked := Try.checked }
namespace Rows
def none {H : Type} : Left H := { results := [], args := [] }

/-- 'tallyrollkeep.NetOwn': WHATEVER THE INPUT: true; the input reads as it did. -/
def netOwnSpec : ChangeSpec := { name := "netOwn", fn := fun _ => fun
  | [d1, d2, d3] => { results := [.lit (.bool true)], args := [d1, d2, d3] }
  | _ => none }
def netOwnRow : OpenClaim := { program := "ytggljibhfbgmpaa", sum := "f356c3a05fb203d7218bac5a76cfbe25ef408e0521bf537a4efb395152816279", func := "tallyroll/tallyrollkeep.NetOwn", spec := "netOwn", unfollowed := true, recurses := true, apart := false }
def NetOwnSaid : Prop := netOwnRow.holds Try.pinned (OpenSpec.ofChange netOwnSpec)

/-- ITS FALSE NEIGHBOUR: 'it returns false'. Refute it at one input. -/
def netOwnWrong : ChangeSpec := { name := "netOwn", fn := fun _ => fun
  | [d1, d2, d3] => { results := [.lit (.bool false)], args := [d1, d2, d3] }
  | _ => none }
def NetOwnWrongFalsely : Prop := netOwnRow.holds Try.pinned (OpenSpec.ofChange netOwnWrong)

/-- 'tallyrollkeep.NetComes': WHATEVER THE INPUT: true; the input reads as it did. -/
def netComesSpec : ChangeSpec := { name := "netComes", fn := fun _ => fun
  | [d1, d2, d3] => { results := [.lit (.bool true)], args := [d1, d2, d3] }
  | _ => none }
def netComesRow : OpenClaim := { program := "ytggljibhfbgmpaa", sum := "f356c3a05fb203d7218bac5a76cfbe25ef408e0521bf537a4efb395152816279", func := "tallyroll/tallyrollkeep.NetComes", spec := "netComes", unfollowed := true, recurses := true, apart := false }
def NetComesSaid : Prop := netComesRow.holds Try.pinned (OpenSpec.ofChange netComesSpec)

/-- ITS FALSE NEIGHBOUR: 'it returns false'. Refute it at one input. -/
def netComesWrong : ChangeSpec := { name := "netComes", fn := fun _ => fun
  | [d1, d2, d3] => { results := [.lit (.bool false)], args := [d1, d2, d3] }
  | _ => none }
def NetComesWrongFalsely : Prop := netComesRow.holds Try.pinned (OpenSpec.ofChange netComesWrong)

/-- 'tallyrollkeep.TagBinds': WHATEVER THE INPUT: true; the input reads as it did. -/
def tagBindsSpec : ChangeSpec := { name := "tagBinds", fn := fun _ => fun
  | [d1, d2, d3, d4] => { results := [.lit (.bool true)], args := [d1, d2, d3, d4] }
  | _ => none }
def tagBindsRow : OpenClaim := { program := "ytggljibhfbgmpaa", sum := "f356c3a05fb203d7218bac5a76cfbe25ef408e0521bf537a4efb395152816279", func := "tallyroll/tallyrollkeep.TagBinds", spec := "tagBinds", inPlace := ["internal/abi.NoEscape"], unfollowed := true, recurses := true, named := ["math/bits.divideError", "math/bits.overflowError"], apart := false }
def TagBindsSaid : Prop := tagBindsRow.holds Try.pinned (OpenSpec.ofChange tagBindsSpec)

/-- ITS FALSE NEIGHBOUR: 'it returns false'. Refute it at one input. -/
def tagBindsWrong : ChangeSpec := { name := "tagBinds", fn := fun _ => fun
  | [d1, d2, d3, d4] => { results := [.lit (.bool false)], args := [d1, d2, d3, d4] }
  | _ => none }
def TagBindsWrongFalsely : Prop := tagBindsRow.holds Try.pinned (OpenSpec.ofChange tagBindsWrong)

/-- 'tallyrollkeep.RollBinds': WHATEVER THE INPUT: true; the input reads as it did. -/
def rollBindsSpec : ChangeSpec := { name := "rollBinds", fn := fun _ => fun
  | [d1, d2, d3, d4] => { results := [.lit (.bool true)], args := [d1, d2, d3, d4] }
  | _ => none }
def rollBindsRow : OpenClaim := { program := "ytggljibhfbgmpaa", sum := "f356c3a05fb203d7218bac5a76cfbe25ef408e0521bf537a4efb395152816279", func := "tallyroll/tallyrollkeep.RollBinds", spec := "rollBinds", unfollowed := true, recurses := true, named := ["math/bits.divideError", "math/bits.overflowError"], apart := false }
def RollBindsSaid : Prop := rollBindsRow.holds Try.pinned (OpenSpec.ofChange rollBindsSpec)

/-- ITS FALSE NEIGHBOUR: 'it returns false'. Refute it at one input. -/
def rollBindsWrong : ChangeSpec := { name := "rollBinds", fn := fun _ => fun
  | [d1, d2, d3, d4] => { results := [.lit (.bool false)], args := [d1, d2, d3, d4] }
  | _ => none }
def RollBindsWrongFalsely : Prop := rollBindsRow.holds Try.pinned (OpenSpec.ofChange rollBindsWrong)

/-- 'tallyrollkeep.RollIns': WHATEVER THE INPUT: true; the input reads as it did. -/
def rollInsSpec : ChangeSpec := { name := "rollIns", fn := fun _ => fun
  | [d1, d2] => { results := [.lit (.bool true)], args := [d1, d2] }
  | _ => none }
def rollInsRow : OpenClaim := { program := "ytggljibhfbgmpaa", sum := "f356c3a05fb203d7218bac5a76cfbe25ef408e0521bf537a4efb395152816279", func := "tallyroll/tallyrollkeep.RollIns", spec := "rollIns", unfollowed := true, recurses := true, named := ["math/bits.divideError", "math/bits.overflowError"], apart := false }
def RollInsSaid : Prop := rollInsRow.holds Try.pinned (OpenSpec.ofChange rollInsSpec)

/-- ITS FALSE NEIGHBOUR: 'it returns false'. Refute it at one input. -/
def rollInsWrong : ChangeSpec := { name := "rollIns", fn := fun _ => fun
  | [d1, d2] => { results := [.lit (.bool false)], args := [d1, d2] }
  | _ => none }
def RollInsWrongFalsely : Prop := rollInsRow.holds Try.pinned (OpenSpec.ofChange rollInsWrong)

/-- 'tallyrollkeep.RollGrew': WHATEVER THE INPUT: true; the input reads as it did. -/
def rollGrewSpec : ChangeSpec := { name := "rollGrew", fn := fun _ => fun
  | [d1, d2] => { results := [.lit (.bool true)], args := [d1, d2] }
  | _ => none }
def rollGrewRow : OpenClaim := { program := "ytggljibhfbgmpaa", sum := "f356c3a05fb203d7218bac5a76cfbe25ef408e0521bf537a4efb395152816279", func := "tallyroll/tallyrollkeep.RollGrew", spec := "rollGrew", unfollowed := true, recurses := true, named := ["math/bits.divideError", "math/bits.overflowError"], apart := false }
def RollGrewSaid : Prop := rollGrewRow.holds Try.pinned (OpenSpec.ofChange rollGrewSpec)

/-- ITS FALSE NEIGHBOUR: 'it returns false'. Refute it at one input. -/
def rollGrewWrong : ChangeSpec := { name := "rollGrew", fn := fun _ => fun
  | [d1, d2] => { results := [.lit (.bool false)], args := [d1, d2] }
  | _ => none }
def RollGrewWrongFalsely : Prop := rollGrewRow.holds Try.pinned (OpenSpec.ofChange rollGrewWrong)

/-- 'tallyrollkeep.ChainGrows': WHATEVER THE INPUT: true; the input reads as it did. -/
def chainGrowsSpec : ChangeSpec := { name := "chainGrows", fn := fun _ => fun
  | [d1, d2, d3] => { results := [.lit (.bool true)], args := [d1, d2, d3] }
  | _ => none }
def chainGrowsRow : OpenClaim := { program := "ytggljibhfbgmpaa", sum := "f356c3a05fb203d7218bac5a76cfbe25ef408e0521bf537a4efb395152816279", func := "tallyroll/tallyrollkeep.ChainGrows", spec := "chainGrows", unfollowed := true, recurses := true, named := ["math/bits.divideError", "math/bits.overflowError"], apart := false }
def ChainGrowsSaid : Prop := chainGrowsRow.holds Try.pinned (OpenSpec.ofChange chainGrowsSpec)

/-- ITS FALSE NEIGHBOUR: 'it returns false'. Refute it at one input. -/
def chainGrowsWrong : ChangeSpec := { name := "chainGrows", fn := fun _ => fun
  | [d1, d2, d3] => { results := [.lit (.bool false)], args := [d1, d2, d3] }
  | _ => none }
def ChainGrowsWrongFalsely : Prop := chainGrowsRow.holds Try.pinned (OpenSpec.ofChange chainGrowsWrong)

/-- 'tallyrollkeep.OwnerWants': WHATEVER THE INPUT: true; the input reads as it did. -/
def ownerWantsSpec : ChangeSpec := { name := "ownerWants", fn := fun _ => fun
  | [d1, d2, d3] => { results := [.lit (.bool true)], args := [d1, d2, d3] }
  | _ => none }
def ownerWantsRow : OpenClaim := { program := "ytggljibhfbgmpaa", sum := "f356c3a05fb203d7218bac5a76cfbe25ef408e0521bf537a4efb395152816279", func := "tallyroll/tallyrollkeep.OwnerWants", spec := "ownerWants", inPlace := ["internal/abi.NoEscape"], unfollowed := true, recurses := true, named := ["math/bits.divideError", "math/bits.overflowError"], apart := false }
def OwnerWantsSaid : Prop := ownerWantsRow.holds Try.pinned (OpenSpec.ofChange ownerWantsSpec)

/-- ITS FALSE NEIGHBOUR: 'it returns false'. Refute it at one input. -/
def ownerWantsWrong : ChangeSpec := { name := "ownerWants", fn := fun _ => fun
  | [d1, d2, d3] => { results := [.lit (.bool false)], args := [d1, d2, d3] }
  | _ => none }
def OwnerWantsWrongFalsely : Prop := ownerWantsRow.holds Try.pinned (OpenSpec.ofChange ownerWantsWrong)

/-- 'tallyrollkeep.ChainBinds': WHATEVER THE INPUT: true; the input reads as it did. -/
def chainBindsSpec : ChangeSpec := { name := "chainBinds", fn := fun _ => fun
  | [d1, d2] => { results := [.lit (.bool true)], args := [d1, d2] }
  | _ => none }
def chainBindsRow : OpenClaim := { program := "ytggljibhfbgmpaa", sum := "f356c3a05fb203d7218bac5a76cfbe25ef408e0521bf537a4efb395152816279", func := "tallyroll/tallyrollkeep.ChainBinds", spec := "chainBinds", unfollowed := true, recurses := true, named := ["math/bits.divideError", "math/bits.overflowError"], apart := false }
def ChainBindsSaid : Prop := chainBindsRow.holds Try.pinned (OpenSpec.ofChange chainBindsSpec)

/-- ITS FALSE NEIGHBOUR: 'it returns false'. Refute it at one input. -/
def chainBindsWrong : ChangeSpec := { name := "chainBinds", fn := fun _ => fun
  | [d1, d2] => { results := [.lit (.bool false)], args := [d1, d2] }
  | _ => none }
def ChainBindsWrongFalsely : Prop := chainBindsRow.holds Try.pinned (OpenSpec.ofChange chainBindsWrong)

/-- 'tallyrollkeep.AuditFinds': WHATEVER THE INPUT: true; the input reads as it did. -/
def auditFindsSpec : ChangeSpec := { name := "auditFinds", fn := fun _ => fun
  | [d1, d2, d3] => { results := [.lit (.bool true)], args := [d1, d2, d3] }
  | _ => none }
def auditFindsRow : OpenClaim := { program := "ytggljibhfbgmpaa", sum := "f356c3a05fb203d7218bac5a76cfbe25ef408e0521bf537a4efb395152816279", func := "tallyroll/tallyrollkeep.AuditFinds", spec := "auditFinds", unfollowed := true, recurses := true, named := ["math/bits.divideError", "math/bits.overflowError"], apart := false }
def AuditFindsSaid : Prop := auditFindsRow.holds Try.pinned (OpenSpec.ofChange auditFindsSpec)

/-- ITS FALSE NEIGHBOUR: 'it returns false'. Refute it at one input. -/
def auditFindsWrong : ChangeSpec := { name := "auditFinds", fn := fun _ => fun
  | [d1, d2, d3] => { results := [.lit (.bool false)], args := [d1, d2, d3] }
  | _ => none }
def AuditFindsWrongFalsely : Prop := auditFindsRow.holds Try.pinned (OpenSpec.ofChange auditFindsWrong)

/-- 'tallyrollkeep.ChainParts': WHATEVER THE INPUT: true; the input reads as it did. -/
def chainPartsSpec : ChangeSpec := { name := "chainParts", fn := fun _ => fun
  | [d1, d2, d3, d4] => { results := [.lit (.bool true)], args := [d1, d2, d3, d4] }
  | _ => none }
def chainPartsRow : OpenClaim := { program := "ytggljibhfbgmpaa", sum := "f356c3a05fb203d7218bac5a76cfbe25ef408e0521bf537a4efb395152816279", func := "tallyroll/tallyrollkeep.ChainParts", spec := "chainParts", unfollowed := true, recurses := true, named := ["math/bits.divideError", "math/bits.overflowError"], apart := false }
def ChainPartsSaid : Prop := chainPartsRow.holds Try.pinned (OpenSpec.ofChange chainPartsSpec)

/-- ITS FALSE NEIGHBOUR: 'it returns false'. Refute it at one input. -/
def chainPartsWrong : ChangeSpec := { name := "chainParts", fn := fun _ => fun
  | [d1, d2, d3, d4] => { results := [.lit (.bool false)], args := [d1, d2, d3, d4] }
  | _ => none }
def ChainPartsWrongFalsely : Prop := chainPartsRow.holds Try.pinned (OpenSpec.ofChange chainPartsWrong)

/-- 'tallyrollkeep.AuditGrew': WHATEVER THE INPUT: true; the input reads as it did. -/
def auditGrewSpec : ChangeSpec := { name := "auditGrew", fn := fun _ => fun
  | [d1, d2] => { results := [.lit (.bool true)], args := [d1, d2] }
  | _ => none }
def auditGrewRow : OpenClaim := { program := "ytggljibhfbgmpaa", sum := "f356c3a05fb203d7218bac5a76cfbe25ef408e0521bf537a4efb395152816279", func := "tallyroll/tallyrollkeep.AuditGrew", spec := "auditGrew", unfollowed := true, recurses := true, named := ["math/bits.divideError", "math/bits.overflowError"], apart := false }
def AuditGrewSaid : Prop := auditGrewRow.holds Try.pinned (OpenSpec.ofChange auditGrewSpec)

/-- ITS FALSE NEIGHBOUR: 'it returns false'. Refute it at one input. -/
def auditGrewWrong : ChangeSpec := { name := "auditGrew", fn := fun _ => fun
  | [d1, d2] => { results := [.lit (.bool false)], args := [d1, d2] }
  | _ => none }
def AuditGrewWrongFalsely : Prop := auditGrewRow.holds Try.pinned (OpenSpec.ofChange auditGrewWrong)

/-- 'tallyrollkeep.ClashIs': WHATEVER THE INPUT: true; the input reads as it did. -/
def clashIsSpec : ChangeSpec := { name := "clashIs", fn := fun _ => fun
  | [d1, d2, d3, d4] => { results := [.lit (.bool true)], args := [d1, d2, d3, d4] }
  | _ => none }
def clashIsRow : OpenClaim := { program := "ytggljibhfbgmpaa", sum := "f356c3a05fb203d7218bac5a76cfbe25ef408e0521bf537a4efb395152816279", func := "tallyroll/tallyrollkeep.ClashIs", spec := "clashIs", inPlace := ["internal/abi.NoEscape"], unfollowed := true, recurses := true, named := ["math/bits.divideError", "math/bits.overflowError"], apart := false }
def ClashIsSaid : Prop := clashIsRow.holds Try.pinned (OpenSpec.ofChange clashIsSpec)

/-- ITS FALSE NEIGHBOUR: 'it returns false'. Refute it at one input. -/
def clashIsWrong : ChangeSpec := { name := "clashIs", fn := fun _ => fun
  | [d1, d2, d3, d4] => { results := [.lit (.bool false)], args := [d1, d2, d3, d4] }
  | _ => none }
def ClashIsWrongFalsely : Prop := clashIsRow.holds Try.pinned (OpenSpec.ofChange clashIsWrong)

/-- 'tallyrollkeep.TreeSets': WHATEVER THE INPUT: true; the input reads as it did. -/
def treeSetsSpec : ChangeSpec := { name := "treeSets", fn := fun _ => fun
  | [d1, d2, d3, d4] => { results := [.lit (.bool true)], args := [d1, d2, d3, d4] }
  | _ => none }
def treeSetsRow : OpenClaim := { program := "ytggljibhfbgmpaa", sum := "f356c3a05fb203d7218bac5a76cfbe25ef408e0521bf537a4efb395152816279", func := "tallyroll/tallyrollkeep.TreeSets", spec := "treeSets", inPlace := ["slices.overlaps[tallyroll/api.Entry]"], unfollowed := true, recurses := true, named := ["math/bits.divideError", "math/bits.overflowError"], apart := false }
def TreeSetsSaid : Prop := treeSetsRow.holds Try.pinned (OpenSpec.ofChange treeSetsSpec)

/-- ITS FALSE NEIGHBOUR: 'it returns false'. Refute it at one input. -/
def treeSetsWrong : ChangeSpec := { name := "treeSets", fn := fun _ => fun
  | [d1, d2, d3, d4] => { results := [.lit (.bool false)], args := [d1, d2, d3, d4] }
  | _ => none }
def TreeSetsWrongFalsely : Prop := treeSetsRow.holds Try.pinned (OpenSpec.ofChange treeSetsWrong)

/- THE SECOND FORM. 'bulk': how many values and letters a reading holds, each counted each time it is reached (what is shared counts as often as it is met; a slice's spare places count too). A statement '..UptoSaid' is the law's where the arguments, and the package variables that the reading takes, are together of bulk at most 1048576: NARROWER than '..Said'. Prove '..Said' where nothing that the law and all that it calls make is longer than what came in: it says more and counts as full. Else prove '..UptoSaid'. A law counts once. -/
mutual
def uptoBulk {H : Type} : DataW H → Nat
  | .lit (.string bytes) => bytes.length + 1
  | .lit _ => 1
  | .nil => 1
  | .ptr d => uptoBulk d + 1
  | .slice elems spare => uptoBulkAll elems + uptoBulkAll spare + 1
  | .agg parts => uptoBulkAll parts + 1
  | .iface _ d => uptoBulk d + 1
  | .map entries => uptoBulkEntries entries + 1
  | .held _ => 1
def uptoBulkAll {H : Type} : List (DataW H) → Nat
  | [] => 0
  | d :: r => uptoBulk d + uptoBulkAll r
def uptoBulkEntries {H : Type} : List (Lit × DataW H) → Nat
  | [] => 0
  | x :: r => uptoBulkEntry x + uptoBulkEntries r
def uptoBulkEntry {H : Type} : Lit × DataW H → Nat
  | (.string bytes, d) => bytes.length + uptoBulk d + 1
  | (_, d) => uptoBulk d + 1
 end
def uptoSmall : (H : Type) → List (DataW H) → Bool := fun _ ds => decide (uptoBulkAll ds ≤ 1048576)
def OpenSpec.upto (s : _root_.Go.ChangeSpec) : _root_.Go.OpenSpec := { _root_.Go.OpenSpec.ofChange s with cond := some uptoSmall }

/-- 'tallyrollkeep.NetOwn', WHERE WHAT IT READS IS OF BULK AT MOST 1048576: true; the input reads as it did. -/
def netOwnUptoRow : OpenClaim := { program := "ytggljibhfbgmpaa", sum := "f356c3a05fb203d7218bac5a76cfbe25ef408e0521bf537a4efb395152816279", func := "tallyroll/tallyrollkeep.NetOwn", spec := "netOwn", unfollowed := true, recurses := true, apart := false, narrowed := true }
def NetOwnUptoSaid : Prop := netOwnUptoRow.holds Try.pinned (OpenSpec.upto netOwnSpec)

/-- 'tallyrollkeep.NetComes', WHERE WHAT IT READS IS OF BULK AT MOST 1048576: true; the input reads as it did. -/
def netComesUptoRow : OpenClaim := { program := "ytggljibhfbgmpaa", sum := "f356c3a05fb203d7218bac5a76cfbe25ef408e0521bf537a4efb395152816279", func := "tallyroll/tallyrollkeep.NetComes", spec := "netComes", unfollowed := true, recurses := true, apart := false, narrowed := true }
def NetComesUptoSaid : Prop := netComesUptoRow.holds Try.pinned (OpenSpec.upto netComesSpec)

/-- 'tallyrollkeep.TagBinds', WHERE WHAT IT READS IS OF BULK AT MOST 1048576: true; the input reads as it did. -/
def tagBindsUptoRow : OpenClaim := { program := "ytggljibhfbgmpaa", sum := "f356c3a05fb203d7218bac5a76cfbe25ef408e0521bf537a4efb395152816279", func := "tallyroll/tallyrollkeep.TagBinds", spec := "tagBinds", inPlace := ["internal/abi.NoEscape"], unfollowed := true, recurses := true, named := ["math/bits.divideError", "math/bits.overflowError"], apart := false, narrowed := true }
def TagBindsUptoSaid : Prop := tagBindsUptoRow.holds Try.pinned (OpenSpec.upto tagBindsSpec)

/-- 'tallyrollkeep.RollBinds', WHERE WHAT IT READS IS OF BULK AT MOST 1048576: true; the input reads as it did. -/
def rollBindsUptoRow : OpenClaim := { program := "ytggljibhfbgmpaa", sum := "f356c3a05fb203d7218bac5a76cfbe25ef408e0521bf537a4efb395152816279", func := "tallyroll/tallyrollkeep.RollBinds", spec := "rollBinds", unfollowed := true, recurses := true, named := ["math/bits.divideError", "math/bits.overflowError"], apart := false, narrowed := true }
def RollBindsUptoSaid : Prop := rollBindsUptoRow.holds Try.pinned (OpenSpec.upto rollBindsSpec)

/-- 'tallyrollkeep.RollIns', WHERE WHAT IT READS IS OF BULK AT MOST 1048576: true; the input reads as it did. -/
def rollInsUptoRow : OpenClaim := { program := "ytggljibhfbgmpaa", sum := "f356c3a05fb203d7218bac5a76cfbe25ef408e0521bf537a4efb395152816279", func := "tallyroll/tallyrollkeep.RollIns", spec := "rollIns", unfollowed := true, recurses := true, named := ["math/bits.divideError", "math/bits.overflowError"], apart := false, narrowed := true }
def RollInsUptoSaid : Prop := rollInsUptoRow.holds Try.pinned (OpenSpec.upto rollInsSpec)

/-- 'tallyrollkeep.RollGrew', WHERE WHAT IT READS IS OF BULK AT MOST 1048576: true; the input reads as it did. -/
def rollGrewUptoRow : OpenClaim := { program := "ytggljibhfbgmpaa", sum := "f356c3a05fb203d7218bac5a76cfbe25ef408e0521bf537a4efb395152816279", func := "tallyroll/tallyrollkeep.RollGrew", spec := "rollGrew", unfollowed := true, recurses := true, named := ["math/bits.divideError", "math/bits.overflowError"], apart := false, narrowed := true }
def RollGrewUptoSaid : Prop := rollGrewUptoRow.holds Try.pinned (OpenSpec.upto rollGrewSpec)

/-- 'tallyrollkeep.ChainGrows', WHERE WHAT IT READS IS OF BULK AT MOST 1048576: true; the input reads as it did. -/
def chainGrowsUptoRow : OpenClaim := { program := "ytggljibhfbgmpaa", sum := "f356c3a05fb203d7218bac5a76cfbe25ef408e0521bf537a4efb395152816279", func := "tallyroll/tallyrollkeep.ChainGrows", spec := "chainGrows", unfollowed := true, recurses := true, named := ["math/bits.divideError", "math/bits.overflowError"], apart := false, narrowed := true }
def ChainGrowsUptoSaid : Prop := chainGrowsUptoRow.holds Try.pinned (OpenSpec.upto chainGrowsSpec)

/-- 'tallyrollkeep.OwnerWants', WHERE WHAT IT READS IS OF BULK AT MOST 1048576: true; the input reads as it did. -/
def ownerWantsUptoRow : OpenClaim := { program := "ytggljibhfbgmpaa", sum := "f356c3a05fb203d7218bac5a76cfbe25ef408e0521bf537a4efb395152816279", func := "tallyroll/tallyrollkeep.OwnerWants", spec := "ownerWants", inPlace := ["internal/abi.NoEscape"], unfollowed := true, recurses := true, named := ["math/bits.divideError", "math/bits.overflowError"], apart := false, narrowed := true }
def OwnerWantsUptoSaid : Prop := ownerWantsUptoRow.holds Try.pinned (OpenSpec.upto ownerWantsSpec)

/-- 'tallyrollkeep.ChainBinds', WHERE WHAT IT READS IS OF BULK AT MOST 1048576: true; the input reads as it did. -/
def chainBindsUptoRow : OpenClaim := { program := "ytggljibhfbgmpaa", sum := "f356c3a05fb203d7218bac5a76cfbe25ef408e0521bf537a4efb395152816279", func := "tallyroll/tallyrollkeep.ChainBinds", spec := "chainBinds", unfollowed := true, recurses := true, named := ["math/bits.divideError", "math/bits.overflowError"], apart := false, narrowed := true }
def ChainBindsUptoSaid : Prop := chainBindsUptoRow.holds Try.pinned (OpenSpec.upto chainBindsSpec)

/-- 'tallyrollkeep.AuditFinds', WHERE WHAT IT READS IS OF BULK AT MOST 1048576: true; the input reads as it did. -/
def auditFindsUptoRow : OpenClaim := { program := "ytggljibhfbgmpaa", sum := "f356c3a05fb203d7218bac5a76cfbe25ef408e0521bf537a4efb395152816279", func := "tallyroll/tallyrollkeep.AuditFinds", spec := "auditFinds", unfollowed := true, recurses := true, named := ["math/bits.divideError", "math/bits.overflowError"], apart := false, narrowed := true }
def AuditFindsUptoSaid : Prop := auditFindsUptoRow.holds Try.pinned (OpenSpec.upto auditFindsSpec)

/-- 'tallyrollkeep.ChainParts', WHERE WHAT IT READS IS OF BULK AT MOST 1048576: true; the input reads as it did. -/
def chainPartsUptoRow : OpenClaim := { program := "ytggljibhfbgmpaa", sum := "f356c3a05fb203d7218bac5a76cfbe25ef408e0521bf537a4efb395152816279", func := "tallyroll/tallyrollkeep.ChainParts", spec := "chainParts", unfollowed := true, recurses := true, named := ["math/bits.divideError", "math/bits.overflowError"], apart := false, narrowed := true }
def ChainPartsUptoSaid : Prop := chainPartsUptoRow.holds Try.pinned (OpenSpec.upto chainPartsSpec)

/-- 'tallyrollkeep.AuditGrew', WHERE WHAT IT READS IS OF BULK AT MOST 1048576: true; the input reads as it did. -/
def auditGrewUptoRow : OpenClaim := { program := "ytggljibhfbgmpaa", sum := "f356c3a05fb203d7218bac5a76cfbe25ef408e0521bf537a4efb395152816279", func := "tallyroll/tallyrollkeep.AuditGrew", spec := "auditGrew", unfollowed := true, recurses := true, named := ["math/bits.divideError", "math/bits.overflowError"], apart := false, narrowed := true }
def AuditGrewUptoSaid : Prop := auditGrewUptoRow.holds Try.pinned (OpenSpec.upto auditGrewSpec)

/-- 'tallyrollkeep.ClashIs', WHERE WHAT IT READS IS OF BULK AT MOST 1048576: true; the input reads as it did. -/
def clashIsUptoRow : OpenClaim := { program := "ytggljibhfbgmpaa", sum := "f356c3a05fb203d7218bac5a76cfbe25ef408e0521bf537a4efb395152816279", func := "tallyroll/tallyrollkeep.ClashIs", spec := "clashIs", inPlace := ["internal/abi.NoEscape"], unfollowed := true, recurses := true, named := ["math/bits.divideError", "math/bits.overflowError"], apart := false, narrowed := true }
def ClashIsUptoSaid : Prop := clashIsUptoRow.holds Try.pinned (OpenSpec.upto clashIsSpec)

/-- 'tallyrollkeep.TreeSets', WHERE WHAT IT READS IS OF BULK AT MOST 1048576: true; the input reads as it did. -/
def treeSetsUptoRow : OpenClaim := { program := "ytggljibhfbgmpaa", sum := "f356c3a05fb203d7218bac5a76cfbe25ef408e0521bf537a4efb395152816279", func := "tallyroll/tallyrollkeep.TreeSets", spec := "treeSets", inPlace := ["slices.overlaps[tallyroll/api.Entry]"], unfollowed := true, recurses := true, named := ["math/bits.divideError", "math/bits.overflowError"], apart := false, narrowed := true }
def TreeSetsUptoSaid : Prop := treeSetsUptoRow.holds Try.pinned (OpenSpec.upto treeSetsSpec)

end Rows
end Go.Proofs.Ytggljibhfbgmpaa
