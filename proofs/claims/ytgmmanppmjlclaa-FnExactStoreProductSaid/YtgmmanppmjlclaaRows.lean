/-
  No cell of these rows narrows 'for every input' (looked for: loops, veiled, ifaces, maps, wideKeys, modest, calm, conditions, laid).
  DERIVED. THE GIVEN ROWS OF THIS SEAT. 8 by the template 'for every input the law returns true; each argument reads behind the call as it read before'; 0 by the template 'total and deterministic' (their statements: YtgmmanppmjlclaaTotals.lean).
  GIVEN WITH THE SEED: the statements are not yours to turn. If you find one false, say at which input.
  Laid BY PROGRAM, IN A SANDBOX (cutbox-rows.mjs): the forced cells as the released guide's own fill.sh prints them over the translation dcd264e9a5f79a54… (all of the seat's roots in one cut). By AI agents, Wed Nov 11 2026. No macro, syntax, notation, axiom, sorry.
-/
import Derived.Test.YtgmmanppmjlclaaChecked
import GoSem.Claim
import GoSem.ClaimJoined
import GoSem.ClaimMapViews
import Derived.JoinedTies
import Derived.KernelRfl
namespace Go.Proofs.Ytgmmanppmjlclaa
/- THE CELL 'sum', in the pinned program and in every row, IS THE sha256 OF THE DUMP (.gsa) THAT YtgmmanppmjlclaaProg.lean LOADS. Nothing in Lean hashes anything: it is a label: what it is worth is what the hold of that sum in a sandbox is worth. -/
noncomputable def Try.pinned : Pinned := { name := "ytgmmanppmjlclaa", sum := "dcd264e9a5f79a5431a961c20996cc6d961b5cfbd90be1064eb9f0bab46a79e2", checked := Try.checked }
namespace Rows
def none {H : Type} : Left H := { results := [], args := [] }

/-- 'laws.FnExactIsValidArchive': WHATEVER THE INPUT: true; the input reads as it did. -/
def fnExactIsValidArchiveSpec : ChangeSpec := { name := "fnExactIsValidArchive", fn := fun _ => fun
  | [d] => { results := [.lit (.bool true)], args := [d] }
  | _ => none }
def fnExactIsValidArchiveRow : OpenClaim := { program := "ytgmmanppmjlclaa", sum := "dcd264e9a5f79a5431a961c20996cc6d961b5cfbd90be1064eb9f0bab46a79e2", func := "loop.example/g00889/laws.FnExactIsValidArchive", spec := "fnExactIsValidArchive", inPlace := ["internal/bytealg.IndexByteString", "internal/bytealg.IndexString", "internal/bytealg.abigen_runtime_cmpstring"], named := ["internal/bytealg.MaxLen"], apart := false }
def FnExactIsValidArchiveSaid : Prop := fnExactIsValidArchiveRow.holds Try.pinned (OpenSpec.ofChange fnExactIsValidArchiveSpec)

/-- ITS FALSE NEIGHBOUR: 'it returns false'. Refute it at one input. -/
def fnExactIsValidArchiveWrong : ChangeSpec := { name := "fnExactIsValidArchive", fn := fun _ => fun
  | [d] => { results := [.lit (.bool false)], args := [d] }
  | _ => none }
def FnExactIsValidArchiveWrongFalsely : Prop := fnExactIsValidArchiveRow.holds Try.pinned (OpenSpec.ofChange fnExactIsValidArchiveWrong)

/-- 'laws.FnExactValidProduct': WHATEVER THE INPUT: true; the input reads as it did. -/
def fnExactValidProductSpec : ChangeSpec := { name := "fnExactValidProduct", fn := fun _ => fun
  | [d1, d2, d3] => { results := [.lit (.bool true)], args := [d1, d2, d3] }
  | _ => none }
def fnExactValidProductRow : OpenClaim := { program := "ytgmmanppmjlclaa", sum := "dcd264e9a5f79a5431a961c20996cc6d961b5cfbd90be1064eb9f0bab46a79e2", func := "loop.example/g00889/laws.FnExactValidProduct", spec := "fnExactValidProduct", inPlace := ["internal/bytealg.IndexByteString", "internal/bytealg.IndexString", "internal/bytealg.abigen_runtime_cmpstring"], unfollowed := true, recurses := true, named := ["internal/bytealg.MaxLen"], apart := false }
def FnExactValidProductSaid : Prop := fnExactValidProductRow.holds Try.pinned (OpenSpec.ofChange fnExactValidProductSpec)

/-- ITS FALSE NEIGHBOUR: 'it returns false'. Refute it at one input. -/
def fnExactValidProductWrong : ChangeSpec := { name := "fnExactValidProduct", fn := fun _ => fun
  | [d1, d2, d3] => { results := [.lit (.bool false)], args := [d1, d2, d3] }
  | _ => none }
def FnExactValidProductWrongFalsely : Prop := fnExactValidProductRow.holds Try.pinned (OpenSpec.ofChange fnExactValidProductWrong)

/-- 'laws.FnExactVersionsOf': WHATEVER THE INPUT: true; the input reads as it did. -/
def fnExactVersionsOfSpec : ChangeSpec := { name := "fnExactVersionsOf", fn := fun _ => fun
  | [d1, d2] => { results := [.lit (.bool true)], args := [d1, d2] }
  | _ => none }
def fnExactVersionsOfRow : OpenClaim := { program := "ytgmmanppmjlclaa", sum := "dcd264e9a5f79a5431a961c20996cc6d961b5cfbd90be1064eb9f0bab46a79e2", func := "loop.example/g00889/laws.FnExactVersionsOf", spec := "fnExactVersionsOf", inPlace := ["internal/bytealg.IndexByteString", "internal/bytealg.IndexString", "internal/bytealg.abigen_runtime_cmpstring"], named := ["internal/bytealg.MaxLen"], apart := false }
def FnExactVersionsOfSaid : Prop := fnExactVersionsOfRow.holds Try.pinned (OpenSpec.ofChange fnExactVersionsOfSpec)

/-- ITS FALSE NEIGHBOUR: 'it returns false'. Refute it at one input. -/
def fnExactVersionsOfWrong : ChangeSpec := { name := "fnExactVersionsOf", fn := fun _ => fun
  | [d1, d2] => { results := [.lit (.bool false)], args := [d1, d2] }
  | _ => none }
def FnExactVersionsOfWrongFalsely : Prop := fnExactVersionsOfRow.holds Try.pinned (OpenSpec.ofChange fnExactVersionsOfWrong)

/-- 'laws.FnExactNamesOf': WHATEVER THE INPUT: true; the input reads as it did. -/
def fnExactNamesOfSpec : ChangeSpec := { name := "fnExactNamesOf", fn := fun _ => fun
  | [d] => { results := [.lit (.bool true)], args := [d] }
  | _ => none }
def fnExactNamesOfRow : OpenClaim := { program := "ytgmmanppmjlclaa", sum := "dcd264e9a5f79a5431a961c20996cc6d961b5cfbd90be1064eb9f0bab46a79e2", func := "loop.example/g00889/laws.FnExactNamesOf", spec := "fnExactNamesOf", inPlace := ["internal/bytealg.IndexByteString", "internal/bytealg.IndexString", "internal/bytealg.abigen_runtime_cmpstring"], named := ["internal/bytealg.MaxLen"], apart := false }
def FnExactNamesOfSaid : Prop := fnExactNamesOfRow.holds Try.pinned (OpenSpec.ofChange fnExactNamesOfSpec)

/-- ITS FALSE NEIGHBOUR: 'it returns false'. Refute it at one input. -/
def fnExactNamesOfWrong : ChangeSpec := { name := "fnExactNamesOf", fn := fun _ => fun
  | [d] => { results := [.lit (.bool false)], args := [d] }
  | _ => none }
def FnExactNamesOfWrongFalsely : Prop := fnExactNamesOfRow.holds Try.pinned (OpenSpec.ofChange fnExactNamesOfWrong)

/-- 'laws.FnExactPruneArchive': WHATEVER THE INPUT: true; the input reads as it did. -/
def fnExactPruneArchiveSpec : ChangeSpec := { name := "fnExactPruneArchive", fn := fun _ => fun
  | [d1, d2] => { results := [.lit (.bool true)], args := [d1, d2] }
  | _ => none }
def fnExactPruneArchiveRow : OpenClaim := { program := "ytgmmanppmjlclaa", sum := "dcd264e9a5f79a5431a961c20996cc6d961b5cfbd90be1064eb9f0bab46a79e2", func := "loop.example/g00889/laws.FnExactPruneArchive", spec := "fnExactPruneArchive", inPlace := ["internal/bytealg.IndexByteString", "internal/bytealg.IndexString", "internal/bytealg.abigen_runtime_cmpstring"], unfollowed := true, recurses := true, named := ["internal/bytealg.MaxLen"], apart := false }
def FnExactPruneArchiveSaid : Prop := fnExactPruneArchiveRow.holds Try.pinned (OpenSpec.ofChange fnExactPruneArchiveSpec)

/-- ITS FALSE NEIGHBOUR: 'it returns false'. Refute it at one input. -/
def fnExactPruneArchiveWrong : ChangeSpec := { name := "fnExactPruneArchive", fn := fun _ => fun
  | [d1, d2] => { results := [.lit (.bool false)], args := [d1, d2] }
  | _ => none }
def FnExactPruneArchiveWrongFalsely : Prop := fnExactPruneArchiveRow.holds Try.pinned (OpenSpec.ofChange fnExactPruneArchiveWrong)

/-- 'laws.FnExactChangedBetween': WHATEVER THE INPUT: true; the input reads as it did. -/
def fnExactChangedBetweenSpec : ChangeSpec := { name := "fnExactChangedBetween", fn := fun _ => fun
  | [d1, d2, d3] => { results := [.lit (.bool true)], args := [d1, d2, d3] }
  | _ => none }
def fnExactChangedBetweenRow : OpenClaim := { program := "ytgmmanppmjlclaa", sum := "dcd264e9a5f79a5431a961c20996cc6d961b5cfbd90be1064eb9f0bab46a79e2", func := "loop.example/g00889/laws.FnExactChangedBetween", spec := "fnExactChangedBetween", inPlace := ["internal/bytealg.IndexByteString", "internal/bytealg.IndexString", "internal/bytealg.abigen_runtime_cmpstring"], unfollowed := true, recurses := true, named := ["internal/bytealg.MaxLen"], apart := false }
def FnExactChangedBetweenSaid : Prop := fnExactChangedBetweenRow.holds Try.pinned (OpenSpec.ofChange fnExactChangedBetweenSpec)

/-- ITS FALSE NEIGHBOUR: 'it returns false'. Refute it at one input. -/
def fnExactChangedBetweenWrong : ChangeSpec := { name := "fnExactChangedBetween", fn := fun _ => fun
  | [d1, d2, d3] => { results := [.lit (.bool false)], args := [d1, d2, d3] }
  | _ => none }
def FnExactChangedBetweenWrongFalsely : Prop := fnExactChangedBetweenRow.holds Try.pinned (OpenSpec.ofChange fnExactChangedBetweenWrong)

/-- 'laws.FnExactStoreProduct': WHATEVER THE INPUT: true; the input reads as it did. -/
def fnExactStoreProductSpec : ChangeSpec := { name := "fnExactStoreProduct", fn := fun _ => fun
  | [d1, d2] => { results := [.lit (.bool true)], args := [d1, d2] }
  | _ => none }
def fnExactStoreProductRow : OpenClaim := { program := "ytgmmanppmjlclaa", sum := "dcd264e9a5f79a5431a961c20996cc6d961b5cfbd90be1064eb9f0bab46a79e2", func := "loop.example/g00889/laws.FnExactStoreProduct", spec := "fnExactStoreProduct", inPlace := ["internal/bytealg.IndexByteString", "internal/bytealg.IndexString", "internal/bytealg.abigen_runtime_cmpstring", "slices.overlaps[loop.example/g00889/impl.Product]"], unfollowed := true, recurses := true, named := ["internal/bytealg.MaxLen"], apart := false }
def FnExactStoreProductSaid : Prop := fnExactStoreProductRow.holds Try.pinned (OpenSpec.ofChange fnExactStoreProductSpec)

/-- ITS FALSE NEIGHBOUR: 'it returns false'. Refute it at one input. -/
def fnExactStoreProductWrong : ChangeSpec := { name := "fnExactStoreProduct", fn := fun _ => fun
  | [d1, d2] => { results := [.lit (.bool false)], args := [d1, d2] }
  | _ => none }
def FnExactStoreProductWrongFalsely : Prop := fnExactStoreProductRow.holds Try.pinned (OpenSpec.ofChange fnExactStoreProductWrong)

/-- 'laws.FnPruning': WHATEVER THE INPUT: true; the input reads as it did. -/
def fnPruningSpec : ChangeSpec := { name := "fnPruning", fn := fun _ => fun
  | [d] => { results := [.lit (.bool true)], args := [d] }
  | _ => none }
def fnPruningRow : OpenClaim := { program := "ytgmmanppmjlclaa", sum := "dcd264e9a5f79a5431a961c20996cc6d961b5cfbd90be1064eb9f0bab46a79e2", func := "loop.example/g00889/laws.FnPruning", spec := "fnPruning", inPlace := ["internal/bytealg.IndexByteString", "internal/bytealg.IndexString", "internal/bytealg.abigen_runtime_cmpstring"], unfollowed := true, recurses := true, named := ["internal/bytealg.MaxLen"], apart := false }
def FnPruningSaid : Prop := fnPruningRow.holds Try.pinned (OpenSpec.ofChange fnPruningSpec)

/-- ITS FALSE NEIGHBOUR: 'it returns false'. Refute it at one input. -/
def fnPruningWrong : ChangeSpec := { name := "fnPruning", fn := fun _ => fun
  | [d] => { results := [.lit (.bool false)], args := [d] }
  | _ => none }
def FnPruningWrongFalsely : Prop := fnPruningRow.holds Try.pinned (OpenSpec.ofChange fnPruningWrong)

/- THE SECOND FORM. 'bulk': how many values and letters a reading holds, each counted each time it is reached (what is shared counts as often as it is met; a slice's spare places count too). A statement '..UptoSaid' is the law's where the arguments, and the package variables that the reading takes, are together of bulk at most 1048576: NARROWER than '..Said'. Prove '..Said' where nothing that the law and all that it calls make is longer than what came in: it says more and counts as full. Else prove '..UptoSaid'. A law counts once. -/
mutual
def uptoBulk {H : Type} : DataW H → Nat
  | .lit (.string bytes) => bytes.length + 1
  | .lit _ => 1
  | .nil => 1
  | .ptr d => uptoBulk d + 1
  | .slice elems spare => uptoBulkAll elems + uptoBulkAll spare + 1
  | .agg parts => uptoBulkAll parts + 1
  | .iface _ d => uptoBulk d + 1
  | .map entries => uptoBulkEntries entries + 1
  | .held _ => 1
def uptoBulkAll {H : Type} : List (DataW H) → Nat
  | [] => 0
  | d :: r => uptoBulk d + uptoBulkAll r
def uptoBulkEntries {H : Type} : List (Lit × DataW H) → Nat
  | [] => 0
  | x :: r => uptoBulkEntry x + uptoBulkEntries r
def uptoBulkEntry {H : Type} : Lit × DataW H → Nat
  | (.string bytes, d) => bytes.length + uptoBulk d + 1
  | (_, d) => uptoBulk d + 1
 end
def uptoSmall : (H : Type) → List (DataW H) → Bool := fun _ ds => decide (uptoBulkAll ds ≤ 1048576)
def OpenSpec.upto (s : _root_.Go.ChangeSpec) : _root_.Go.OpenSpec := { _root_.Go.OpenSpec.ofChange s with cond := some uptoSmall }

/-- 'laws.FnExactIsValidArchive', WHERE WHAT IT READS IS OF BULK AT MOST 1048576: true; the input reads as it did. -/
def fnExactIsValidArchiveUptoRow : OpenClaim := { program := "ytgmmanppmjlclaa", sum := "dcd264e9a5f79a5431a961c20996cc6d961b5cfbd90be1064eb9f0bab46a79e2", func := "loop.example/g00889/laws.FnExactIsValidArchive", spec := "fnExactIsValidArchive", inPlace := ["internal/bytealg.IndexByteString", "internal/bytealg.IndexString", "internal/bytealg.abigen_runtime_cmpstring"], named := ["internal/bytealg.MaxLen"], apart := false, narrowed := true }
def FnExactIsValidArchiveUptoSaid : Prop := fnExactIsValidArchiveUptoRow.holds Try.pinned (OpenSpec.upto fnExactIsValidArchiveSpec)

/-- 'laws.FnExactValidProduct', WHERE WHAT IT READS IS OF BULK AT MOST 1048576: true; the input reads as it did. -/
def fnExactValidProductUptoRow : OpenClaim := { program := "ytgmmanppmjlclaa", sum := "dcd264e9a5f79a5431a961c20996cc6d961b5cfbd90be1064eb9f0bab46a79e2", func := "loop.example/g00889/laws.FnExactValidProduct", spec := "fnExactValidProduct", inPlace := ["internal/bytealg.IndexByteString", "internal/bytealg.IndexString", "internal/bytealg.abigen_runtime_cmpstring"], unfollowed := true, recurses := true, named := ["internal/bytealg.MaxLen"], apart := false, narrowed := true }
def FnExactValidProductUptoSaid : Prop := fnExactValidProductUptoRow.holds Try.pinned (OpenSpec.upto fnExactValidProductSpec)

/-- 'laws.FnExactVersionsOf', WHERE WHAT IT READS IS OF BULK AT MOST 1048576: true; the input reads as it did. -/
def fnExactVersionsOfUptoRow : OpenClaim := { program := "ytgmmanppmjlclaa", sum := "dcd264e9a5f79a5431a961c20996cc6d961b5cfbd90be1064eb9f0bab46a79e2", func := "loop.example/g00889/laws.FnExactVersionsOf", spec := "fnExactVersionsOf", inPlace := ["internal/bytealg.IndexByteString", "internal/bytealg.IndexString", "internal/bytealg.abigen_runtime_cmpstring"], named := ["internal/bytealg.MaxLen"], apart := false, narrowed := true }
def FnExactVersionsOfUptoSaid : Prop := fnExactVersionsOfUptoRow.holds Try.pinned (OpenSpec.upto fnExactVersionsOfSpec)

/-- 'laws.FnExactNamesOf', WHERE WHAT IT READS IS OF BULK AT MOST 1048576: true; the input reads as it did. -/
def fnExactNamesOfUptoRow : OpenClaim := { program := "ytgmmanppmjlclaa", sum := "dcd264e9a5f79a5431a961c20996cc6d961b5cfbd90be1064eb9f0bab46a79e2", func := "loop.example/g00889/laws.FnExactNamesOf", spec := "fnExactNamesOf", inPlace := ["internal/bytealg.IndexByteString", "internal/bytealg.IndexString", "internal/bytealg.abigen_runtime_cmpstring"], named := ["internal/bytealg.MaxLen"], apart := false, narrowed := true }
def FnExactNamesOfUptoSaid : Prop := fnExactNamesOfUptoRow.holds Try.pinned (OpenSpec.upto fnExactNamesOfSpec)

/-- 'laws.FnExactPruneArchive', WHERE WHAT IT READS IS OF BULK AT MOST 1048576: true; the input reads as it did. -/
def fnExactPruneArchiveUptoRow : OpenClaim := { program := "ytgmmanppmjlclaa", sum := "dcd264e9a5f79a5431a961c20996cc6d961b5cfbd90be1064eb9f0bab46a79e2", func := "loop.example/g00889/laws.FnExactPruneArchive", spec := "fnExactPruneArchive", inPlace := ["internal/bytealg.IndexByteString", "internal/bytealg.IndexString", "internal/bytealg.abigen_runtime_cmpstring"], unfollowed := true, recurses := true, named := ["internal/bytealg.MaxLen"], apart := false, narrowed := true }
def FnExactPruneArchiveUptoSaid : Prop := fnExactPruneArchiveUptoRow.holds Try.pinned (OpenSpec.upto fnExactPruneArchiveSpec)

/-- 'laws.FnExactChangedBetween', WHERE WHAT IT READS IS OF BULK AT MOST 1048576: true; the input reads as it did. -/
def fnExactChangedBetweenUptoRow : OpenClaim := { program := "ytgmmanppmjlclaa", sum := "dcd264e9a5f79a5431a961c20996cc6d961b5cfbd90be1064eb9f0bab46a79e2", func := "loop.example/g00889/laws.FnExactChangedBetween", spec := "fnExactChangedBetween", inPlace := ["internal/bytealg.IndexByteString", "internal/bytealg.IndexString", "internal/bytealg.abigen_runtime_cmpstring"], unfollowed := true, recurses := true, named := ["internal/bytealg.MaxLen"], apart := false, narrowed := true }
def FnExactChangedBetweenUptoSaid : Prop := fnExactChangedBetweenUptoRow.holds Try.pinned (OpenSpec.upto fnExactChangedBetweenSpec)

/-- 'laws.FnExactStoreProduct', WHERE WHAT IT READS IS OF BULK AT MOST 1048576: true; the input reads as it did. -/
def fnExactStoreProductUptoRow : OpenClaim := { program := "ytgmmanppmjlclaa", sum := "dcd264e9a5f79a5431a961c20996cc6d961b5cfbd90be1064eb9f0bab46a79e2", func := "loop.example/g00889/laws.FnExactStoreProduct", spec := "fnExactStoreProduct", inPlace := ["internal/bytealg.IndexByteString", "internal/bytealg.IndexString", "internal/bytealg.abigen_runtime_cmpstring", "slices.overlaps[loop.example/g00889/impl.Product]"], unfollowed := true, recurses := true, named := ["internal/bytealg.MaxLen"], apart := false, narrowed := true }
def FnExactStoreProductUptoSaid : Prop := fnExactStoreProductUptoRow.holds Try.pinned (OpenSpec.upto fnExactStoreProductSpec)

/-- 'laws.FnPruning', WHERE WHAT IT READS IS OF BULK AT MOST 1048576: true; the input reads as it did. -/
def fnPruningUptoRow : OpenClaim := { program := "ytgmmanppmjlclaa", sum := "dcd264e9a5f79a5431a961c20996cc6d961b5cfbd90be1064eb9f0bab46a79e2", func := "loop.example/g00889/laws.FnPruning", spec := "fnPruning", inPlace := ["internal/bytealg.IndexByteString", "internal/bytealg.IndexString", "internal/bytealg.abigen_runtime_cmpstring"], unfollowed := true, recurses := true, named := ["internal/bytealg.MaxLen"], apart := false, narrowed := true }
def FnPruningUptoSaid : Prop := fnPruningUptoRow.holds Try.pinned (OpenSpec.upto fnPruningSpec)

end Rows
end Go.Proofs.Ytgmmanppmjlclaa
