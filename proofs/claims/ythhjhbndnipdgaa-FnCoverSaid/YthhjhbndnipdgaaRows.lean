/-
  No cell of these rows narrows 'for every input' (looked for: loops, veiled, ifaces, maps, wideKeys, modest, calm, conditions, laid).
  DERIVED. THE GIVEN ROWS OF THIS SEAT. 11 by the template 'for every input the law returns true; each argument reads behind the call as it read before'; 0 by the template 'total and deterministic' (their statements: YthhjhbndnipdgaaTotals.lean).
  GIVEN WITH THE SEED: the statements are not yours to turn. If you find one false, say at which input.
  Laid BY PROGRAM, IN A SANDBOX (cutbox-rows.mjs): the forced cells as the released guide's own fill.sh prints them over the translation cb43a309f1087c97… (all of the seat's roots in one cut). By AI agents, Wed Nov 11 2026. No macro, syntax, notation, axiom, sorry.
-/
import Derived.Test.YthhjhbndnipdgaaChecked
import GoSem.Claim
import GoSem.ClaimJoined
import GoSem.ClaimMapViews
import Derived.JoinedTies
import Derived.KernelRfl
namespace Go.Proofs.Ythhjhbndnipdgaa
/- THE CELL 'sum', in the pinned program and in every row, IS THE sha256 OF THE DUMP (.gsa) THAT YthhjhbndnipdgaaProg.lean LOADS. Nothing in Lean hashes anything: it is a label: what it is worth is what the hold of that sum in a sandbox is worth. -/
noncomputable def Try.pinned : Pinned := { name := "ythhjhbndnipdgaa", sum := "cb43a309f1087c9729d89ca92f37c618d9c427a62440bf87142de71b2bce512d", checked := Try.checked }
namespace Rows
def none {H : Type} : Left H := { results := [], args := [] }

/-- 'laws.FnExactIsValidPlan': WHATEVER THE INPUT: true; the input reads as it did. -/
def fnExactIsValidPlanSpec : ChangeSpec := { name := "fnExactIsValidPlan", fn := fun _ => fun
  | [d] => { results := [.lit (.bool true)], args := [d] }
  | _ => none }
def fnExactIsValidPlanRow : OpenClaim := { program := "ythhjhbndnipdgaa", sum := "cb43a309f1087c9729d89ca92f37c618d9c427a62440bf87142de71b2bce512d", func := "loop.example/g00889/laws.FnExactIsValidPlan", spec := "fnExactIsValidPlan", unfollowed := true, recurses := true, apart := false }
def FnExactIsValidPlanSaid : Prop := fnExactIsValidPlanRow.holds Try.pinned (OpenSpec.ofChange fnExactIsValidPlanSpec)

/-- ITS FALSE NEIGHBOUR: 'it returns false'. Refute it at one input. -/
def fnExactIsValidPlanWrong : ChangeSpec := { name := "fnExactIsValidPlan", fn := fun _ => fun
  | [d] => { results := [.lit (.bool false)], args := [d] }
  | _ => none }
def FnExactIsValidPlanWrongFalsely : Prop := fnExactIsValidPlanRow.holds Try.pinned (OpenSpec.ofChange fnExactIsValidPlanWrong)

/-- 'laws.FnExactDutyHours': WHATEVER THE INPUT: true; the input reads as it did. -/
def fnExactDutyHoursSpec : ChangeSpec := { name := "fnExactDutyHours", fn := fun _ => fun
  | [d1, d2] => { results := [.lit (.bool true)], args := [d1, d2] }
  | _ => none }
def fnExactDutyHoursRow : OpenClaim := { program := "ythhjhbndnipdgaa", sum := "cb43a309f1087c9729d89ca92f37c618d9c427a62440bf87142de71b2bce512d", func := "loop.example/g00889/laws.FnExactDutyHours", spec := "fnExactDutyHours", unfollowed := true, recurses := true, apart := false }
def FnExactDutyHoursSaid : Prop := fnExactDutyHoursRow.holds Try.pinned (OpenSpec.ofChange fnExactDutyHoursSpec)

/-- ITS FALSE NEIGHBOUR: 'it returns false'. Refute it at one input. -/
def fnExactDutyHoursWrong : ChangeSpec := { name := "fnExactDutyHours", fn := fun _ => fun
  | [d1, d2] => { results := [.lit (.bool false)], args := [d1, d2] }
  | _ => none }
def FnExactDutyHoursWrongFalsely : Prop := fnExactDutyHoursRow.holds Try.pinned (OpenSpec.ofChange fnExactDutyHoursWrong)

/-- 'laws.FnExactShortestRest': WHATEVER THE INPUT: true; the input reads as it did. -/
def fnExactShortestRestSpec : ChangeSpec := { name := "fnExactShortestRest", fn := fun _ => fun
  | [d1, d2] => { results := [.lit (.bool true)], args := [d1, d2] }
  | _ => none }
def fnExactShortestRestRow : OpenClaim := { program := "ythhjhbndnipdgaa", sum := "cb43a309f1087c9729d89ca92f37c618d9c427a62440bf87142de71b2bce512d", func := "loop.example/g00889/laws.FnExactShortestRest", spec := "fnExactShortestRest", unfollowed := true, recurses := true, apart := false }
def FnExactShortestRestSaid : Prop := fnExactShortestRestRow.holds Try.pinned (OpenSpec.ofChange fnExactShortestRestSpec)

/-- ITS FALSE NEIGHBOUR: 'it returns false'. Refute it at one input. -/
def fnExactShortestRestWrong : ChangeSpec := { name := "fnExactShortestRest", fn := fun _ => fun
  | [d1, d2] => { results := [.lit (.bool false)], args := [d1, d2] }
  | _ => none }
def FnExactShortestRestWrongFalsely : Prop := fnExactShortestRestRow.holds Try.pinned (OpenSpec.ofChange fnExactShortestRestWrong)

/-- 'laws.FnExactUncoveredHours': WHATEVER THE INPUT: true; the input reads as it did. -/
def fnExactUncoveredHoursSpec : ChangeSpec := { name := "fnExactUncoveredHours", fn := fun _ => fun
  | [d1, d2, d3, d4] => { results := [.lit (.bool true)], args := [d1, d2, d3, d4] }
  | _ => none }
def fnExactUncoveredHoursRow : OpenClaim := { program := "ythhjhbndnipdgaa", sum := "cb43a309f1087c9729d89ca92f37c618d9c427a62440bf87142de71b2bce512d", func := "loop.example/g00889/laws.FnExactUncoveredHours", spec := "fnExactUncoveredHours", unfollowed := true, recurses := true, apart := false }
def FnExactUncoveredHoursSaid : Prop := fnExactUncoveredHoursRow.holds Try.pinned (OpenSpec.ofChange fnExactUncoveredHoursSpec)

/-- ITS FALSE NEIGHBOUR: 'it returns false'. Refute it at one input. -/
def fnExactUncoveredHoursWrong : ChangeSpec := { name := "fnExactUncoveredHours", fn := fun _ => fun
  | [d1, d2, d3, d4] => { results := [.lit (.bool false)], args := [d1, d2, d3, d4] }
  | _ => none }
def FnExactUncoveredHoursWrongFalsely : Prop := fnExactUncoveredHoursRow.holds Try.pinned (OpenSpec.ofChange fnExactUncoveredHoursWrong)

/-- 'laws.FnExactNextFree': WHATEVER THE INPUT: true; the input reads as it did. -/
def fnExactNextFreeSpec : ChangeSpec := { name := "fnExactNextFree", fn := fun _ => fun
  | [d1, d2, d3, d4] => { results := [.lit (.bool true)], args := [d1, d2, d3, d4] }
  | _ => none }
def fnExactNextFreeRow : OpenClaim := { program := "ythhjhbndnipdgaa", sum := "cb43a309f1087c9729d89ca92f37c618d9c427a62440bf87142de71b2bce512d", func := "loop.example/g00889/laws.FnExactNextFree", spec := "fnExactNextFree", unfollowed := true, recurses := true, apart := false }
def FnExactNextFreeSaid : Prop := fnExactNextFreeRow.holds Try.pinned (OpenSpec.ofChange fnExactNextFreeSpec)

/-- ITS FALSE NEIGHBOUR: 'it returns false'. Refute it at one input. -/
def fnExactNextFreeWrong : ChangeSpec := { name := "fnExactNextFree", fn := fun _ => fun
  | [d1, d2, d3, d4] => { results := [.lit (.bool false)], args := [d1, d2, d3, d4] }
  | _ => none }
def FnExactNextFreeWrongFalsely : Prop := fnExactNextFreeRow.holds Try.pinned (OpenSpec.ofChange fnExactNextFreeWrong)

/-- 'laws.FnExactAddDuty': WHATEVER THE INPUT: true; the input reads as it did. -/
def fnExactAddDutySpec : ChangeSpec := { name := "fnExactAddDuty", fn := fun _ => fun
  | [d1, d2] => { results := [.lit (.bool true)], args := [d1, d2] }
  | _ => none }
def fnExactAddDutyRow : OpenClaim := { program := "ythhjhbndnipdgaa", sum := "cb43a309f1087c9729d89ca92f37c618d9c427a62440bf87142de71b2bce512d", func := "loop.example/g00889/laws.FnExactAddDuty", spec := "fnExactAddDuty", unfollowed := true, recurses := true, apart := false }
def FnExactAddDutySaid : Prop := fnExactAddDutyRow.holds Try.pinned (OpenSpec.ofChange fnExactAddDutySpec)

/-- ITS FALSE NEIGHBOUR: 'it returns false'. Refute it at one input. -/
def fnExactAddDutyWrong : ChangeSpec := { name := "fnExactAddDuty", fn := fun _ => fun
  | [d1, d2] => { results := [.lit (.bool false)], args := [d1, d2] }
  | _ => none }
def FnExactAddDutyWrongFalsely : Prop := fnExactAddDutyRow.holds Try.pinned (OpenSpec.ofChange fnExactAddDutyWrong)

/-- 'laws.FnExactExchangePersons': WHATEVER THE INPUT: true; the input reads as it did. -/
def fnExactExchangePersonsSpec : ChangeSpec := { name := "fnExactExchangePersons", fn := fun _ => fun
  | [d1, d2, d3] => { results := [.lit (.bool true)], args := [d1, d2, d3] }
  | _ => none }
def fnExactExchangePersonsRow : OpenClaim := { program := "ythhjhbndnipdgaa", sum := "cb43a309f1087c9729d89ca92f37c618d9c427a62440bf87142de71b2bce512d", func := "loop.example/g00889/laws.FnExactExchangePersons", spec := "fnExactExchangePersons", unfollowed := true, recurses := true, apart := false }
def FnExactExchangePersonsSaid : Prop := fnExactExchangePersonsRow.holds Try.pinned (OpenSpec.ofChange fnExactExchangePersonsSpec)

/-- ITS FALSE NEIGHBOUR: 'it returns false'. Refute it at one input. -/
def fnExactExchangePersonsWrong : ChangeSpec := { name := "fnExactExchangePersons", fn := fun _ => fun
  | [d1, d2, d3] => { results := [.lit (.bool false)], args := [d1, d2, d3] }
  | _ => none }
def FnExactExchangePersonsWrongFalsely : Prop := fnExactExchangePersonsRow.holds Try.pinned (OpenSpec.ofChange fnExactExchangePersonsWrong)

/-- 'laws.FnExactOnDuty': WHATEVER THE INPUT: true; the input reads as it did. -/
def fnExactOnDutySpec : ChangeSpec := { name := "fnExactOnDuty", fn := fun _ => fun
  | [d1, d2] => { results := [.lit (.bool true)], args := [d1, d2] }
  | _ => none }
def fnExactOnDutyRow : OpenClaim := { program := "ythhjhbndnipdgaa", sum := "cb43a309f1087c9729d89ca92f37c618d9c427a62440bf87142de71b2bce512d", func := "loop.example/g00889/laws.FnExactOnDuty", spec := "fnExactOnDuty", unfollowed := true, recurses := true, apart := false }
def FnExactOnDutySaid : Prop := fnExactOnDutyRow.holds Try.pinned (OpenSpec.ofChange fnExactOnDutySpec)

/-- ITS FALSE NEIGHBOUR: 'it returns false'. Refute it at one input. -/
def fnExactOnDutyWrong : ChangeSpec := { name := "fnExactOnDuty", fn := fun _ => fun
  | [d1, d2] => { results := [.lit (.bool false)], args := [d1, d2] }
  | _ => none }
def FnExactOnDutyWrongFalsely : Prop := fnExactOnDutyRow.holds Try.pinned (OpenSpec.ofChange fnExactOnDutyWrong)

/-- 'laws.FnExactHandoverHours': WHATEVER THE INPUT: true; the input reads as it did. -/
def fnExactHandoverHoursSpec : ChangeSpec := { name := "fnExactHandoverHours", fn := fun _ => fun
  | [d] => { results := [.lit (.bool true)], args := [d] }
  | _ => none }
def fnExactHandoverHoursRow : OpenClaim := { program := "ythhjhbndnipdgaa", sum := "cb43a309f1087c9729d89ca92f37c618d9c427a62440bf87142de71b2bce512d", func := "loop.example/g00889/laws.FnExactHandoverHours", spec := "fnExactHandoverHours", unfollowed := true, recurses := true, apart := false }
def FnExactHandoverHoursSaid : Prop := fnExactHandoverHoursRow.holds Try.pinned (OpenSpec.ofChange fnExactHandoverHoursSpec)

/-- ITS FALSE NEIGHBOUR: 'it returns false'. Refute it at one input. -/
def fnExactHandoverHoursWrong : ChangeSpec := { name := "fnExactHandoverHours", fn := fun _ => fun
  | [d] => { results := [.lit (.bool false)], args := [d] }
  | _ => none }
def FnExactHandoverHoursWrongFalsely : Prop := fnExactHandoverHoursRow.holds Try.pinned (OpenSpec.ofChange fnExactHandoverHoursWrong)

/-- 'laws.FnDuties': WHATEVER THE INPUT: true; the input reads as it did. -/
def fnDutiesSpec : ChangeSpec := { name := "fnDuties", fn := fun _ => fun
  | [d] => { results := [.lit (.bool true)], args := [d] }
  | _ => none }
def fnDutiesRow : OpenClaim := { program := "ythhjhbndnipdgaa", sum := "cb43a309f1087c9729d89ca92f37c618d9c427a62440bf87142de71b2bce512d", func := "loop.example/g00889/laws.FnDuties", spec := "fnDuties", unfollowed := true, recurses := true, apart := false }
def FnDutiesSaid : Prop := fnDutiesRow.holds Try.pinned (OpenSpec.ofChange fnDutiesSpec)

/-- ITS FALSE NEIGHBOUR: 'it returns false'. Refute it at one input. -/
def fnDutiesWrong : ChangeSpec := { name := "fnDuties", fn := fun _ => fun
  | [d] => { results := [.lit (.bool false)], args := [d] }
  | _ => none }
def FnDutiesWrongFalsely : Prop := fnDutiesRow.holds Try.pinned (OpenSpec.ofChange fnDutiesWrong)

/-- 'laws.FnCover': WHATEVER THE INPUT: true; the input reads as it did. -/
def fnCoverSpec : ChangeSpec := { name := "fnCover", fn := fun _ => fun
  | [d] => { results := [.lit (.bool true)], args := [d] }
  | _ => none }
def fnCoverRow : OpenClaim := { program := "ythhjhbndnipdgaa", sum := "cb43a309f1087c9729d89ca92f37c618d9c427a62440bf87142de71b2bce512d", func := "loop.example/g00889/laws.FnCover", spec := "fnCover", unfollowed := true, recurses := true, apart := false }
def FnCoverSaid : Prop := fnCoverRow.holds Try.pinned (OpenSpec.ofChange fnCoverSpec)

/-- ITS FALSE NEIGHBOUR: 'it returns false'. Refute it at one input. -/
def fnCoverWrong : ChangeSpec := { name := "fnCover", fn := fun _ => fun
  | [d] => { results := [.lit (.bool false)], args := [d] }
  | _ => none }
def FnCoverWrongFalsely : Prop := fnCoverRow.holds Try.pinned (OpenSpec.ofChange fnCoverWrong)

/- THE SECOND FORM. 'bulk': how many values and letters a reading holds, each counted each time it is reached (what is shared counts as often as it is met; a slice's spare places count too). A statement '..UptoSaid' is the law's where the arguments, and the package variables that the reading takes, are together of bulk at most 1048576: NARROWER than '..Said'. Prove '..Said' where nothing that the law and all that it calls make is longer than what came in: it says more and counts as full. Else prove '..UptoSaid'. A law counts once. -/
mutual
def uptoBulk {H : Type} : DataW H → Nat
  | .lit (.string bytes) => bytes.length + 1
  | .lit _ => 1
  | .nil => 1
  | .ptr d => uptoBulk d + 1
  | .slice elems spare => uptoBulkAll elems + uptoBulkAll spare + 1
  | .agg parts => uptoBulkAll parts + 1
  | .iface _ d => uptoBulk d + 1
  | .map entries => uptoBulkEntries entries + 1
  | .held _ => 1
def uptoBulkAll {H : Type} : List (DataW H) → Nat
  | [] => 0
  | d :: r => uptoBulk d + uptoBulkAll r
def uptoBulkEntries {H : Type} : List (Lit × DataW H) → Nat
  | [] => 0
  | x :: r => uptoBulkEntry x + uptoBulkEntries r
def uptoBulkEntry {H : Type} : Lit × DataW H → Nat
  | (.string bytes, d) => bytes.length + uptoBulk d + 1
  | (_, d) => uptoBulk d + 1
 end
def uptoSmall : (H : Type) → List (DataW H) → Bool := fun _ ds => decide (uptoBulkAll ds ≤ 1048576)
def OpenSpec.upto (s : _root_.Go.ChangeSpec) : _root_.Go.OpenSpec := { _root_.Go.OpenSpec.ofChange s with cond := some uptoSmall }

/-- 'laws.FnExactIsValidPlan', WHERE WHAT IT READS IS OF BULK AT MOST 1048576: true; the input reads as it did. -/
def fnExactIsValidPlanUptoRow : OpenClaim := { program := "ythhjhbndnipdgaa", sum := "cb43a309f1087c9729d89ca92f37c618d9c427a62440bf87142de71b2bce512d", func := "loop.example/g00889/laws.FnExactIsValidPlan", spec := "fnExactIsValidPlan", unfollowed := true, recurses := true, apart := false, narrowed := true }
def FnExactIsValidPlanUptoSaid : Prop := fnExactIsValidPlanUptoRow.holds Try.pinned (OpenSpec.upto fnExactIsValidPlanSpec)

/-- 'laws.FnExactDutyHours', WHERE WHAT IT READS IS OF BULK AT MOST 1048576: true; the input reads as it did. -/
def fnExactDutyHoursUptoRow : OpenClaim := { program := "ythhjhbndnipdgaa", sum := "cb43a309f1087c9729d89ca92f37c618d9c427a62440bf87142de71b2bce512d", func := "loop.example/g00889/laws.FnExactDutyHours", spec := "fnExactDutyHours", unfollowed := true, recurses := true, apart := false, narrowed := true }
def FnExactDutyHoursUptoSaid : Prop := fnExactDutyHoursUptoRow.holds Try.pinned (OpenSpec.upto fnExactDutyHoursSpec)

/-- 'laws.FnExactShortestRest', WHERE WHAT IT READS IS OF BULK AT MOST 1048576: true; the input reads as it did. -/
def fnExactShortestRestUptoRow : OpenClaim := { program := "ythhjhbndnipdgaa", sum := "cb43a309f1087c9729d89ca92f37c618d9c427a62440bf87142de71b2bce512d", func := "loop.example/g00889/laws.FnExactShortestRest", spec := "fnExactShortestRest", unfollowed := true, recurses := true, apart := false, narrowed := true }
def FnExactShortestRestUptoSaid : Prop := fnExactShortestRestUptoRow.holds Try.pinned (OpenSpec.upto fnExactShortestRestSpec)

/-- 'laws.FnExactUncoveredHours', WHERE WHAT IT READS IS OF BULK AT MOST 1048576: true; the input reads as it did. -/
def fnExactUncoveredHoursUptoRow : OpenClaim := { program := "ythhjhbndnipdgaa", sum := "cb43a309f1087c9729d89ca92f37c618d9c427a62440bf87142de71b2bce512d", func := "loop.example/g00889/laws.FnExactUncoveredHours", spec := "fnExactUncoveredHours", unfollowed := true, recurses := true, apart := false, narrowed := true }
def FnExactUncoveredHoursUptoSaid : Prop := fnExactUncoveredHoursUptoRow.holds Try.pinned (OpenSpec.upto fnExactUncoveredHoursSpec)

/-- 'laws.FnExactNextFree', WHERE WHAT IT READS IS OF BULK AT MOST 1048576: true; the input reads as it did. -/
def fnExactNextFreeUptoRow : OpenClaim := { program := "ythhjhbndnipdgaa", sum := "cb43a309f1087c9729d89ca92f37c618d9c427a62440bf87142de71b2bce512d", func := "loop.example/g00889/laws.FnExactNextFree", spec := "fnExactNextFree", unfollowed := true, recurses := true, apart := false, narrowed := true }
def FnExactNextFreeUptoSaid : Prop := fnExactNextFreeUptoRow.holds Try.pinned (OpenSpec.upto fnExactNextFreeSpec)

/-- 'laws.FnExactAddDuty', WHERE WHAT IT READS IS OF BULK AT MOST 1048576: true; the input reads as it did. -/
def fnExactAddDutyUptoRow : OpenClaim := { program := "ythhjhbndnipdgaa", sum := "cb43a309f1087c9729d89ca92f37c618d9c427a62440bf87142de71b2bce512d", func := "loop.example/g00889/laws.FnExactAddDuty", spec := "fnExactAddDuty", unfollowed := true, recurses := true, apart := false, narrowed := true }
def FnExactAddDutyUptoSaid : Prop := fnExactAddDutyUptoRow.holds Try.pinned (OpenSpec.upto fnExactAddDutySpec)

/-- 'laws.FnExactExchangePersons', WHERE WHAT IT READS IS OF BULK AT MOST 1048576: true; the input reads as it did. -/
def fnExactExchangePersonsUptoRow : OpenClaim := { program := "ythhjhbndnipdgaa", sum := "cb43a309f1087c9729d89ca92f37c618d9c427a62440bf87142de71b2bce512d", func := "loop.example/g00889/laws.FnExactExchangePersons", spec := "fnExactExchangePersons", unfollowed := true, recurses := true, apart := false, narrowed := true }
def FnExactExchangePersonsUptoSaid : Prop := fnExactExchangePersonsUptoRow.holds Try.pinned (OpenSpec.upto fnExactExchangePersonsSpec)

/-- 'laws.FnExactOnDuty', WHERE WHAT IT READS IS OF BULK AT MOST 1048576: true; the input reads as it did. -/
def fnExactOnDutyUptoRow : OpenClaim := { program := "ythhjhbndnipdgaa", sum := "cb43a309f1087c9729d89ca92f37c618d9c427a62440bf87142de71b2bce512d", func := "loop.example/g00889/laws.FnExactOnDuty", spec := "fnExactOnDuty", unfollowed := true, recurses := true, apart := false, narrowed := true }
def FnExactOnDutyUptoSaid : Prop := fnExactOnDutyUptoRow.holds Try.pinned (OpenSpec.upto fnExactOnDutySpec)

/-- 'laws.FnExactHandoverHours', WHERE WHAT IT READS IS OF BULK AT MOST 1048576: true; the input reads as it did. -/
def fnExactHandoverHoursUptoRow : OpenClaim := { program := "ythhjhbndnipdgaa", sum := "cb43a309f1087c9729d89ca92f37c618d9c427a62440bf87142de71b2bce512d", func := "loop.example/g00889/laws.FnExactHandoverHours", spec := "fnExactHandoverHours", unfollowed := true, recurses := true, apart := false, narrowed := true }
def FnExactHandoverHoursUptoSaid : Prop := fnExactHandoverHoursUptoRow.holds Try.pinned (OpenSpec.upto fnExactHandoverHoursSpec)

/-- 'laws.FnDuties', WHERE WHAT IT READS IS OF BULK AT MOST 1048576: true; the input reads as it did. -/
def fnDutiesUptoRow : OpenClaim := { program := "ythhjhbndnipdgaa", sum := "cb43a309f1087c9729d89ca92f37c618d9c427a62440bf87142de71b2bce512d", func := "loop.example/g00889/laws.FnDuties", spec := "fnDuties", unfollowed := true, recurses := true, apart := false, narrowed := true }
def FnDutiesUptoSaid : Prop := fnDutiesUptoRow.holds Try.pinned (OpenSpec.upto fnDutiesSpec)

/-- 'laws.FnCover', WHERE WHAT IT READS IS OF BULK AT MOST 1048576: true; the input reads as it did. -/
def fnCoverUptoRow : OpenClaim := { program := "ythhjhbndnipdgaa", sum := "cb43a309f1087c9729d89ca92f37c618d9c427a62440bf87142de71b2bce512d", func := "loop.example/g00889/laws.FnCover", spec := "fnCover", unfollowed := true, recurses := true, apart := false, narrowed := true }
def FnCoverUptoSaid : Prop := fnCoverUptoRow.holds Try.pinned (OpenSpec.upto fnCoverSpec)

end Rows
end Go.Proofs.Ythhjhbndnipdgaa
