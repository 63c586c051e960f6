/-
  No cell of these rows narrows 'for every input' (looked for: loops, veiled, ifaces, maps, wideKeys, modest, calm, conditions, laid).
  DERIVED. THE GIVEN ROWS OF THIS SEAT. 8 by the template 'for every input the law returns true; each argument reads behind the call as it read before'; 0 by the template 'total and deterministic' (their statements: YtdmkbfjipgaloaaTotals.lean).
  GIVEN WITH THE SEED: the statements are not yours to turn. If you find one false, say at which input.
  Laid BY PROGRAM, IN A SANDBOX (cutbox-rows.mjs): the forced cells as the released guide's own fill.sh prints them over the translation 0e6c530dd6379d44… (all of the seat's roots in one cut). By AI agents, Wed Nov 11 2026. No macro, syntax, notation, axiom, sorry.
-/
import Derived.Test.YtdmkbfjipgaloaaChecked
import GoSem.Claim
import GoSem.ClaimJoined
import GoSem.ClaimMapViews
import Derived.JoinedTies
import Derived.KernelRfl
namespace Go.Proofs.Ytdmkbfjipgaloaa
/- THE CELL 'sum', in the pinned program and in every row, IS THE sha256 OF THE DUMP (.gsa) THAT YtdmkbfjipgaloaaProg.lean LOADS. Nothing in Lean hashes anything: it is a label: what it is worth is what the hold of that sum in a sandbox is worth. -/
noncomputable def Try.pinned : Pinned := { name := "ytdmkbfjipgaloaa", sum := "0e6c530dd6379d448658b9a509b6bf2a5fa50b3e36c7737187bee801d0ee464a", checked := Try.checked }
namespace Rows
def none {H : Type} : Left H := { results := [], args := [] }

/-- 'laws.FnSlopes': WHATEVER THE INPUT: true; the input reads as it did. -/
def fnSlopesSpec : ChangeSpec := { name := "fnSlopes", fn := fun _ => fun
  | [d] => { results := [.lit (.bool true)], args := [d] }
  | _ => none }
def fnSlopesRow : OpenClaim := { program := "ytdmkbfjipgaloaa", sum := "0e6c530dd6379d448658b9a509b6bf2a5fa50b3e36c7737187bee801d0ee464a", func := "loop.example/g00889/laws.FnSlopes", spec := "fnSlopes", unfollowed := true, recurses := true, apart := false }
def FnSlopesSaid : Prop := fnSlopesRow.holds Try.pinned (OpenSpec.ofChange fnSlopesSpec)

/-- ITS FALSE NEIGHBOUR: 'it returns false'. Refute it at one input. -/
def fnSlopesWrong : ChangeSpec := { name := "fnSlopes", fn := fun _ => fun
  | [d] => { results := [.lit (.bool false)], args := [d] }
  | _ => none }
def FnSlopesWrongFalsely : Prop := fnSlopesRow.holds Try.pinned (OpenSpec.ofChange fnSlopesWrong)

/-- 'laws.FnExactSetRegion': WHATEVER THE INPUT: true; the input reads as it did. -/
def fnExactSetRegionSpec : ChangeSpec := { name := "fnExactSetRegion", fn := fun _ => fun
  | [d1, d2, d3] => { results := [.lit (.bool true)], args := [d1, d2, d3] }
  | _ => none }
def fnExactSetRegionRow : OpenClaim := { program := "ytdmkbfjipgaloaa", sum := "0e6c530dd6379d448658b9a509b6bf2a5fa50b3e36c7737187bee801d0ee464a", func := "loop.example/g00889/laws.FnExactSetRegion", spec := "fnExactSetRegion", unfollowed := true, recurses := true, apart := false }
def FnExactSetRegionSaid : Prop := fnExactSetRegionRow.holds Try.pinned (OpenSpec.ofChange fnExactSetRegionSpec)

/-- ITS FALSE NEIGHBOUR: 'it returns false'. Refute it at one input. -/
def fnExactSetRegionWrong : ChangeSpec := { name := "fnExactSetRegion", fn := fun _ => fun
  | [d1, d2, d3] => { results := [.lit (.bool false)], args := [d1, d2, d3] }
  | _ => none }
def FnExactSetRegionWrongFalsely : Prop := fnExactSetRegionRow.holds Try.pinned (OpenSpec.ofChange fnExactSetRegionWrong)

/-- 'laws.FnExactCopyRegion': WHATEVER THE INPUT: true; the input reads as it did. -/
def fnExactCopyRegionSpec : ChangeSpec := { name := "fnExactCopyRegion", fn := fun _ => fun
  | [d1, d2, d3] => { results := [.lit (.bool true)], args := [d1, d2, d3] }
  | _ => none }
def fnExactCopyRegionRow : OpenClaim := { program := "ytdmkbfjipgaloaa", sum := "0e6c530dd6379d448658b9a509b6bf2a5fa50b3e36c7737187bee801d0ee464a", func := "loop.example/g00889/laws.FnExactCopyRegion", spec := "fnExactCopyRegion", unfollowed := true, recurses := true, apart := false }
def FnExactCopyRegionSaid : Prop := fnExactCopyRegionRow.holds Try.pinned (OpenSpec.ofChange fnExactCopyRegionSpec)

/-- ITS FALSE NEIGHBOUR: 'it returns false'. Refute it at one input. -/
def fnExactCopyRegionWrong : ChangeSpec := { name := "fnExactCopyRegion", fn := fun _ => fun
  | [d1, d2, d3] => { results := [.lit (.bool false)], args := [d1, d2, d3] }
  | _ => none }
def FnExactCopyRegionWrongFalsely : Prop := fnExactCopyRegionRow.holds Try.pinned (OpenSpec.ofChange fnExactCopyRegionWrong)

/-- 'laws.FnExactLowerSlopes': WHATEVER THE INPUT: true; the input reads as it did. -/
def fnExactLowerSlopesSpec : ChangeSpec := { name := "fnExactLowerSlopes", fn := fun _ => fun
  | [d1, d2] => { results := [.lit (.bool true)], args := [d1, d2] }
  | _ => none }
def fnExactLowerSlopesRow : OpenClaim := { program := "ytdmkbfjipgaloaa", sum := "0e6c530dd6379d448658b9a509b6bf2a5fa50b3e36c7737187bee801d0ee464a", func := "loop.example/g00889/laws.FnExactLowerSlopes", spec := "fnExactLowerSlopes", unfollowed := true, recurses := true, apart := false }
def FnExactLowerSlopesSaid : Prop := fnExactLowerSlopesRow.holds Try.pinned (OpenSpec.ofChange fnExactLowerSlopesSpec)

/-- ITS FALSE NEIGHBOUR: 'it returns false'. Refute it at one input. -/
def fnExactLowerSlopesWrong : ChangeSpec := { name := "fnExactLowerSlopes", fn := fun _ => fun
  | [d1, d2] => { results := [.lit (.bool false)], args := [d1, d2] }
  | _ => none }
def FnExactLowerSlopesWrongFalsely : Prop := fnExactLowerSlopesRow.holds Try.pinned (OpenSpec.ofChange fnExactLowerSlopesWrong)

/-- 'laws.FnExactRaiseSlopes': WHATEVER THE INPUT: true; the input reads as it did. -/
def fnExactRaiseSlopesSpec : ChangeSpec := { name := "fnExactRaiseSlopes", fn := fun _ => fun
  | [d1, d2] => { results := [.lit (.bool true)], args := [d1, d2] }
  | _ => none }
def fnExactRaiseSlopesRow : OpenClaim := { program := "ytdmkbfjipgaloaa", sum := "0e6c530dd6379d448658b9a509b6bf2a5fa50b3e36c7737187bee801d0ee464a", func := "loop.example/g00889/laws.FnExactRaiseSlopes", spec := "fnExactRaiseSlopes", unfollowed := true, recurses := true, apart := false }
def FnExactRaiseSlopesSaid : Prop := fnExactRaiseSlopesRow.holds Try.pinned (OpenSpec.ofChange fnExactRaiseSlopesSpec)

/-- ITS FALSE NEIGHBOUR: 'it returns false'. Refute it at one input. -/
def fnExactRaiseSlopesWrong : ChangeSpec := { name := "fnExactRaiseSlopes", fn := fun _ => fun
  | [d1, d2] => { results := [.lit (.bool false)], args := [d1, d2] }
  | _ => none }
def FnExactRaiseSlopesWrongFalsely : Prop := fnExactRaiseSlopesRow.holds Try.pinned (OpenSpec.ofChange fnExactRaiseSlopesWrong)

/-- 'laws.FnExactAddToRegion': WHATEVER THE INPUT: true; the input reads as it did. -/
def fnExactAddToRegionSpec : ChangeSpec := { name := "fnExactAddToRegion", fn := fun _ => fun
  | [d1, d2, d3] => { results := [.lit (.bool true)], args := [d1, d2, d3] }
  | _ => none }
def fnExactAddToRegionRow : OpenClaim := { program := "ytdmkbfjipgaloaa", sum := "0e6c530dd6379d448658b9a509b6bf2a5fa50b3e36c7737187bee801d0ee464a", func := "loop.example/g00889/laws.FnExactAddToRegion", spec := "fnExactAddToRegion", unfollowed := true, recurses := true, apart := false }
def FnExactAddToRegionSaid : Prop := fnExactAddToRegionRow.holds Try.pinned (OpenSpec.ofChange fnExactAddToRegionSpec)

/-- ITS FALSE NEIGHBOUR: 'it returns false'. Refute it at one input. -/
def fnExactAddToRegionWrong : ChangeSpec := { name := "fnExactAddToRegion", fn := fun _ => fun
  | [d1, d2, d3] => { results := [.lit (.bool false)], args := [d1, d2, d3] }
  | _ => none }
def FnExactAddToRegionWrongFalsely : Prop := fnExactAddToRegionRow.holds Try.pinned (OpenSpec.ofChange fnExactAddToRegionWrong)

/-- 'laws.FnExactSpreadMean': WHATEVER THE INPUT: true; the input reads as it did. -/
def fnExactSpreadMeanSpec : ChangeSpec := { name := "fnExactSpreadMean", fn := fun _ => fun
  | [d1, d2] => { results := [.lit (.bool true)], args := [d1, d2] }
  | _ => none }
def fnExactSpreadMeanRow : OpenClaim := { program := "ytdmkbfjipgaloaa", sum := "0e6c530dd6379d448658b9a509b6bf2a5fa50b3e36c7737187bee801d0ee464a", func := "loop.example/g00889/laws.FnExactSpreadMean", spec := "fnExactSpreadMean", unfollowed := true, recurses := true, apart := false }
def FnExactSpreadMeanSaid : Prop := fnExactSpreadMeanRow.holds Try.pinned (OpenSpec.ofChange fnExactSpreadMeanSpec)

/-- ITS FALSE NEIGHBOUR: 'it returns false'. Refute it at one input. -/
def fnExactSpreadMeanWrong : ChangeSpec := { name := "fnExactSpreadMean", fn := fun _ => fun
  | [d1, d2] => { results := [.lit (.bool false)], args := [d1, d2] }
  | _ => none }
def FnExactSpreadMeanWrongFalsely : Prop := fnExactSpreadMeanRow.holds Try.pinned (OpenSpec.ofChange fnExactSpreadMeanWrong)

/-- 'laws.FnEdits': WHATEVER THE INPUT: true; the input reads as it did. -/
def fnEditsSpec : ChangeSpec := { name := "fnEdits", fn := fun _ => fun
  | [d] => { results := [.lit (.bool true)], args := [d] }
  | _ => none }
def fnEditsRow : OpenClaim := { program := "ytdmkbfjipgaloaa", sum := "0e6c530dd6379d448658b9a509b6bf2a5fa50b3e36c7737187bee801d0ee464a", func := "loop.example/g00889/laws.FnEdits", spec := "fnEdits", unfollowed := true, recurses := true, apart := false }
def FnEditsSaid : Prop := fnEditsRow.holds Try.pinned (OpenSpec.ofChange fnEditsSpec)

/-- ITS FALSE NEIGHBOUR: 'it returns false'. Refute it at one input. -/
def fnEditsWrong : ChangeSpec := { name := "fnEdits", fn := fun _ => fun
  | [d] => { results := [.lit (.bool false)], args := [d] }
  | _ => none }
def FnEditsWrongFalsely : Prop := fnEditsRow.holds Try.pinned (OpenSpec.ofChange fnEditsWrong)

/- THE SECOND FORM. 'bulk': how many values and letters a reading holds, each counted each time it is reached (what is shared counts as often as it is met; a slice's spare places count too). A statement '..UptoSaid' is the law's where the arguments, and the package variables that the reading takes, are together of bulk at most 1048576: NARROWER than '..Said'. Prove '..Said' where nothing that the law and all that it calls make is longer than what came in: it says more and counts as full. Else prove '..UptoSaid'. A law counts once. -/
mutual
def uptoBulk {H : Type} : DataW H → Nat
  | .lit (.string bytes) => bytes.length + 1
  | .lit _ => 1
  | .nil => 1
  | .ptr d => uptoBulk d + 1
  | .slice elems spare => uptoBulkAll elems + uptoBulkAll spare + 1
  | .agg parts => uptoBulkAll parts + 1
  | .iface _ d => uptoBulk d + 1
  | .map entries => uptoBulkEntries entries + 1
  | .held _ => 1
def uptoBulkAll {H : Type} : List (DataW H) → Nat
  | [] => 0
  | d :: r => uptoBulk d + uptoBulkAll r
def uptoBulkEntries {H : Type} : List (Lit × DataW H) → Nat
  | [] => 0
  | x :: r => uptoBulkEntry x + uptoBulkEntries r
def uptoBulkEntry {H : Type} : Lit × DataW H → Nat
  | (.string bytes, d) => bytes.length + uptoBulk d + 1
  | (_, d) => uptoBulk d + 1
 end
def uptoSmall : (H : Type) → List (DataW H) → Bool := fun _ ds => decide (uptoBulkAll ds ≤ 1048576)
def OpenSpec.upto (s : _root_.Go.ChangeSpec) : _root_.Go.OpenSpec := { _root_.Go.OpenSpec.ofChange s with cond := some uptoSmall }

/-- 'laws.FnSlopes', WHERE WHAT IT READS IS OF BULK AT MOST 1048576: true; the input reads as it did. -/
def fnSlopesUptoRow : OpenClaim := { program := "ytdmkbfjipgaloaa", sum := "0e6c530dd6379d448658b9a509b6bf2a5fa50b3e36c7737187bee801d0ee464a", func := "loop.example/g00889/laws.FnSlopes", spec := "fnSlopes", unfollowed := true, recurses := true, apart := false, narrowed := true }
def FnSlopesUptoSaid : Prop := fnSlopesUptoRow.holds Try.pinned (OpenSpec.upto fnSlopesSpec)

/-- 'laws.FnExactSetRegion', WHERE WHAT IT READS IS OF BULK AT MOST 1048576: true; the input reads as it did. -/
def fnExactSetRegionUptoRow : OpenClaim := { program := "ytdmkbfjipgaloaa", sum := "0e6c530dd6379d448658b9a509b6bf2a5fa50b3e36c7737187bee801d0ee464a", func := "loop.example/g00889/laws.FnExactSetRegion", spec := "fnExactSetRegion", unfollowed := true, recurses := true, apart := false, narrowed := true }
def FnExactSetRegionUptoSaid : Prop := fnExactSetRegionUptoRow.holds Try.pinned (OpenSpec.upto fnExactSetRegionSpec)

/-- 'laws.FnExactCopyRegion', WHERE WHAT IT READS IS OF BULK AT MOST 1048576: true; the input reads as it did. -/
def fnExactCopyRegionUptoRow : OpenClaim := { program := "ytdmkbfjipgaloaa", sum := "0e6c530dd6379d448658b9a509b6bf2a5fa50b3e36c7737187bee801d0ee464a", func := "loop.example/g00889/laws.FnExactCopyRegion", spec := "fnExactCopyRegion", unfollowed := true, recurses := true, apart := false, narrowed := true }
def FnExactCopyRegionUptoSaid : Prop := fnExactCopyRegionUptoRow.holds Try.pinned (OpenSpec.upto fnExactCopyRegionSpec)

/-- 'laws.FnExactLowerSlopes', WHERE WHAT IT READS IS OF BULK AT MOST 1048576: true; the input reads as it did. -/
def fnExactLowerSlopesUptoRow : OpenClaim := { program := "ytdmkbfjipgaloaa", sum := "0e6c530dd6379d448658b9a509b6bf2a5fa50b3e36c7737187bee801d0ee464a", func := "loop.example/g00889/laws.FnExactLowerSlopes", spec := "fnExactLowerSlopes", unfollowed := true, recurses := true, apart := false, narrowed := true }
def FnExactLowerSlopesUptoSaid : Prop := fnExactLowerSlopesUptoRow.holds Try.pinned (OpenSpec.upto fnExactLowerSlopesSpec)

/-- 'laws.FnExactRaiseSlopes', WHERE WHAT IT READS IS OF BULK AT MOST 1048576: true; the input reads as it did. -/
def fnExactRaiseSlopesUptoRow : OpenClaim := { program := "ytdmkbfjipgaloaa", sum := "0e6c530dd6379d448658b9a509b6bf2a5fa50b3e36c7737187bee801d0ee464a", func := "loop.example/g00889/laws.FnExactRaiseSlopes", spec := "fnExactRaiseSlopes", unfollowed := true, recurses := true, apart := false, narrowed := true }
def FnExactRaiseSlopesUptoSaid : Prop := fnExactRaiseSlopesUptoRow.holds Try.pinned (OpenSpec.upto fnExactRaiseSlopesSpec)

/-- 'laws.FnExactAddToRegion', WHERE WHAT IT READS IS OF BULK AT MOST 1048576: true; the input reads as it did. -/
def fnExactAddToRegionUptoRow : OpenClaim := { program := "ytdmkbfjipgaloaa", sum := "0e6c530dd6379d448658b9a509b6bf2a5fa50b3e36c7737187bee801d0ee464a", func := "loop.example/g00889/laws.FnExactAddToRegion", spec := "fnExactAddToRegion", unfollowed := true, recurses := true, apart := false, narrowed := true }
def FnExactAddToRegionUptoSaid : Prop := fnExactAddToRegionUptoRow.holds Try.pinned (OpenSpec.upto fnExactAddToRegionSpec)

/-- 'laws.FnExactSpreadMean', WHERE WHAT IT READS IS OF BULK AT MOST 1048576: true; the input reads as it did. -/
def fnExactSpreadMeanUptoRow : OpenClaim := { program := "ytdmkbfjipgaloaa", sum := "0e6c530dd6379d448658b9a509b6bf2a5fa50b3e36c7737187bee801d0ee464a", func := "loop.example/g00889/laws.FnExactSpreadMean", spec := "fnExactSpreadMean", unfollowed := true, recurses := true, apart := false, narrowed := true }
def FnExactSpreadMeanUptoSaid : Prop := fnExactSpreadMeanUptoRow.holds Try.pinned (OpenSpec.upto fnExactSpreadMeanSpec)

/-- 'laws.FnEdits', WHERE WHAT IT READS IS OF BULK AT MOST 1048576: true; the input reads as it did. -/
def fnEditsUptoRow : OpenClaim := { program := "ytdmkbfjipgaloaa", sum := "0e6c530dd6379d448658b9a509b6bf2a5fa50b3e36c7737187bee801d0ee464a", func := "loop.example/g00889/laws.FnEdits", spec := "fnEdits", unfollowed := true, recurses := true, apart := false, narrowed := true }
def FnEditsUptoSaid : Prop := fnEditsUptoRow.holds Try.pinned (OpenSpec.upto fnEditsSpec)

end Rows
end Go.Proofs.Ytdmkbfjipgaloaa
