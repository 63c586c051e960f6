/-
  No cell of these rows narrows 'for every input' (looked for: loops, veiled, ifaces, maps, wideKeys, modest, calm, conditions, laid).
  DERIVED. THE GIVEN ROWS OF THIS SEAT. 12 by the template 'for every input the law returns true; each argument reads behind the call as it read before'; 0 by the template 'total and deterministic' (their statements: YtdhdifoenladpaaTotals.lean).
  GIVEN WITH THE SEED: the statements are not yours to turn. If you find one false, say at which input.
  Laid BY PROGRAM, IN A SANDBOX (cutbox-rows.mjs): the forced cells as the released guide's own fill.sh prints them over the translation 823e09cd6f6a6a9e… (all of the seat's roots in one cut). By AI agents, Wed Nov 11 2026. No macro, syntax, notation, axiom, sorry.
-/
import Derived.Test.YtdhdifoenladpaaChecked
import GoSem.Claim
import GoSem.ClaimJoined
import GoSem.ClaimMapViews
import Derived.JoinedTies
import Derived.KernelRfl
namespace Go.Proofs.Ytdhdifoenladpaa
/- THE CELL 'sum', in the pinned program and in every row, IS THE sha256 OF THE DUMP (.gsa) THAT YtdhdifoenladpaaProg.lean LOADS. Nothing in Lean hashes anything: it is a label: what it is worth is what the hold of that sum in a sandbox is worth. -/
noncomputable def Try.pinned : Pinned := { name := "ytdhdifoenladpaa", sum := "823e09cd6f6a6a9e05be932aa7521123f3aee9138b51545ae8733546ac445358", checked := Try.checked }
namespace Rows
def none {H : Type} : Left H := { results := [], args := [] }

/-- 'laws.FnExactIsValidSeries': WHATEVER THE INPUT: true; the input reads as it did. -/
def fnExactIsValidSeriesSpec : ChangeSpec := { name := "fnExactIsValidSeries", fn := fun _ => fun
  | [d] => { results := [.lit (.bool true)], args := [d] }
  | _ => none }
def fnExactIsValidSeriesRow : OpenClaim := { program := "ytdhdifoenladpaa", sum := "823e09cd6f6a6a9e05be932aa7521123f3aee9138b51545ae8733546ac445358", func := "loop.example/g00889/laws.FnExactIsValidSeries", spec := "fnExactIsValidSeries", unfollowed := true, recurses := true, apart := false }
def FnExactIsValidSeriesSaid : Prop := fnExactIsValidSeriesRow.holds Try.pinned (OpenSpec.ofChange fnExactIsValidSeriesSpec)

/-- ITS FALSE NEIGHBOUR: 'it returns false'. Refute it at one input. -/
def fnExactIsValidSeriesWrong : ChangeSpec := { name := "fnExactIsValidSeries", fn := fun _ => fun
  | [d] => { results := [.lit (.bool false)], args := [d] }
  | _ => none }
def FnExactIsValidSeriesWrongFalsely : Prop := fnExactIsValidSeriesRow.holds Try.pinned (OpenSpec.ofChange fnExactIsValidSeriesWrong)

/-- 'laws.FnExactLongestSpell': WHATEVER THE INPUT: true; the input reads as it did. -/
def fnExactLongestSpellSpec : ChangeSpec := { name := "fnExactLongestSpell", fn := fun _ => fun
  | [d1, d2] => { results := [.lit (.bool true)], args := [d1, d2] }
  | _ => none }
def fnExactLongestSpellRow : OpenClaim := { program := "ytdhdifoenladpaa", sum := "823e09cd6f6a6a9e05be932aa7521123f3aee9138b51545ae8733546ac445358", func := "loop.example/g00889/laws.FnExactLongestSpell", spec := "fnExactLongestSpell", unfollowed := true, recurses := true, apart := false }
def FnExactLongestSpellSaid : Prop := fnExactLongestSpellRow.holds Try.pinned (OpenSpec.ofChange fnExactLongestSpellSpec)

/-- ITS FALSE NEIGHBOUR: 'it returns false'. Refute it at one input. -/
def fnExactLongestSpellWrong : ChangeSpec := { name := "fnExactLongestSpell", fn := fun _ => fun
  | [d1, d2] => { results := [.lit (.bool false)], args := [d1, d2] }
  | _ => none }
def FnExactLongestSpellWrongFalsely : Prop := fnExactLongestSpellRow.holds Try.pinned (OpenSpec.ofChange fnExactLongestSpellWrong)

/-- 'laws.FnExactRecordDays': WHATEVER THE INPUT: true; the input reads as it did. -/
def fnExactRecordDaysSpec : ChangeSpec := { name := "fnExactRecordDays", fn := fun _ => fun
  | [d] => { results := [.lit (.bool true)], args := [d] }
  | _ => none }
def fnExactRecordDaysRow : OpenClaim := { program := "ytdhdifoenladpaa", sum := "823e09cd6f6a6a9e05be932aa7521123f3aee9138b51545ae8733546ac445358", func := "loop.example/g00889/laws.FnExactRecordDays", spec := "fnExactRecordDays", unfollowed := true, recurses := true, apart := false }
def FnExactRecordDaysSaid : Prop := fnExactRecordDaysRow.holds Try.pinned (OpenSpec.ofChange fnExactRecordDaysSpec)

/-- ITS FALSE NEIGHBOUR: 'it returns false'. Refute it at one input. -/
def fnExactRecordDaysWrong : ChangeSpec := { name := "fnExactRecordDays", fn := fun _ => fun
  | [d] => { results := [.lit (.bool false)], args := [d] }
  | _ => none }
def FnExactRecordDaysWrongFalsely : Prop := fnExactRecordDaysRow.holds Try.pinned (OpenSpec.ofChange fnExactRecordDaysWrong)

/-- 'laws.FnExactRankOfDay': WHATEVER THE INPUT: true; the input reads as it did. -/
def fnExactRankOfDaySpec : ChangeSpec := { name := "fnExactRankOfDay", fn := fun _ => fun
  | [d1, d2] => { results := [.lit (.bool true)], args := [d1, d2] }
  | _ => none }
def fnExactRankOfDayRow : OpenClaim := { program := "ytdhdifoenladpaa", sum := "823e09cd6f6a6a9e05be932aa7521123f3aee9138b51545ae8733546ac445358", func := "loop.example/g00889/laws.FnExactRankOfDay", spec := "fnExactRankOfDay", unfollowed := true, recurses := true, apart := false }
def FnExactRankOfDaySaid : Prop := fnExactRankOfDayRow.holds Try.pinned (OpenSpec.ofChange fnExactRankOfDaySpec)

/-- ITS FALSE NEIGHBOUR: 'it returns false'. Refute it at one input. -/
def fnExactRankOfDayWrong : ChangeSpec := { name := "fnExactRankOfDay", fn := fun _ => fun
  | [d1, d2] => { results := [.lit (.bool false)], args := [d1, d2] }
  | _ => none }
def FnExactRankOfDayWrongFalsely : Prop := fnExactRankOfDayRow.holds Try.pinned (OpenSpec.ofChange fnExactRankOfDayWrong)

/-- 'laws.FnExactHighestDay': WHATEVER THE INPUT: true; the input reads as it did. -/
def fnExactHighestDaySpec : ChangeSpec := { name := "fnExactHighestDay", fn := fun _ => fun
  | [d] => { results := [.lit (.bool true)], args := [d] }
  | _ => none }
def fnExactHighestDayRow : OpenClaim := { program := "ytdhdifoenladpaa", sum := "823e09cd6f6a6a9e05be932aa7521123f3aee9138b51545ae8733546ac445358", func := "loop.example/g00889/laws.FnExactHighestDay", spec := "fnExactHighestDay", unfollowed := true, recurses := true, apart := false }
def FnExactHighestDaySaid : Prop := fnExactHighestDayRow.holds Try.pinned (OpenSpec.ofChange fnExactHighestDaySpec)

/-- ITS FALSE NEIGHBOUR: 'it returns false'. Refute it at one input. -/
def fnExactHighestDayWrong : ChangeSpec := { name := "fnExactHighestDay", fn := fun _ => fun
  | [d] => { results := [.lit (.bool false)], args := [d] }
  | _ => none }
def FnExactHighestDayWrongFalsely : Prop := fnExactHighestDayRow.holds Try.pinned (OpenSpec.ofChange fnExactHighestDayWrong)

/-- 'laws.FnExactLowestDay': WHATEVER THE INPUT: true; the input reads as it did. -/
def fnExactLowestDaySpec : ChangeSpec := { name := "fnExactLowestDay", fn := fun _ => fun
  | [d] => { results := [.lit (.bool true)], args := [d] }
  | _ => none }
def fnExactLowestDayRow : OpenClaim := { program := "ytdhdifoenladpaa", sum := "823e09cd6f6a6a9e05be932aa7521123f3aee9138b51545ae8733546ac445358", func := "loop.example/g00889/laws.FnExactLowestDay", spec := "fnExactLowestDay", unfollowed := true, recurses := true, apart := false }
def FnExactLowestDaySaid : Prop := fnExactLowestDayRow.holds Try.pinned (OpenSpec.ofChange fnExactLowestDaySpec)

/-- ITS FALSE NEIGHBOUR: 'it returns false'. Refute it at one input. -/
def fnExactLowestDayWrong : ChangeSpec := { name := "fnExactLowestDay", fn := fun _ => fun
  | [d] => { results := [.lit (.bool false)], args := [d] }
  | _ => none }
def FnExactLowestDayWrongFalsely : Prop := fnExactLowestDayRow.holds Try.pinned (OpenSpec.ofChange fnExactLowestDayWrong)

/-- 'laws.FnExactFillGaps': WHATEVER THE INPUT: true; the input reads as it did. -/
def fnExactFillGapsSpec : ChangeSpec := { name := "fnExactFillGaps", fn := fun _ => fun
  | [d] => { results := [.lit (.bool true)], args := [d] }
  | _ => none }
def fnExactFillGapsRow : OpenClaim := { program := "ytdhdifoenladpaa", sum := "823e09cd6f6a6a9e05be932aa7521123f3aee9138b51545ae8733546ac445358", func := "loop.example/g00889/laws.FnExactFillGaps", spec := "fnExactFillGaps", unfollowed := true, recurses := true, apart := false }
def FnExactFillGapsSaid : Prop := fnExactFillGapsRow.holds Try.pinned (OpenSpec.ofChange fnExactFillGapsSpec)

/-- ITS FALSE NEIGHBOUR: 'it returns false'. Refute it at one input. -/
def fnExactFillGapsWrong : ChangeSpec := { name := "fnExactFillGaps", fn := fun _ => fun
  | [d] => { results := [.lit (.bool false)], args := [d] }
  | _ => none }
def FnExactFillGapsWrongFalsely : Prop := fnExactFillGapsRow.holds Try.pinned (OpenSpec.ofChange fnExactFillGapsWrong)

/-- 'laws.FnExactSeriesMean': WHATEVER THE INPUT: true; the input reads as it did. -/
def fnExactSeriesMeanSpec : ChangeSpec := { name := "fnExactSeriesMean", fn := fun _ => fun
  | [d1, d2, d3] => { results := [.lit (.bool true)], args := [d1, d2, d3] }
  | _ => none }
def fnExactSeriesMeanRow : OpenClaim := { program := "ytdhdifoenladpaa", sum := "823e09cd6f6a6a9e05be932aa7521123f3aee9138b51545ae8733546ac445358", func := "loop.example/g00889/laws.FnExactSeriesMean", spec := "fnExactSeriesMean", unfollowed := true, recurses := true, apart := false }
def FnExactSeriesMeanSaid : Prop := fnExactSeriesMeanRow.holds Try.pinned (OpenSpec.ofChange fnExactSeriesMeanSpec)

/-- ITS FALSE NEIGHBOUR: 'it returns false'. Refute it at one input. -/
def fnExactSeriesMeanWrong : ChangeSpec := { name := "fnExactSeriesMean", fn := fun _ => fun
  | [d1, d2, d3] => { results := [.lit (.bool false)], args := [d1, d2, d3] }
  | _ => none }
def FnExactSeriesMeanWrongFalsely : Prop := fnExactSeriesMeanRow.holds Try.pinned (OpenSpec.ofChange fnExactSeriesMeanWrong)

/-- 'laws.FnExactAnomalyOf': WHATEVER THE INPUT: true; the input reads as it did. -/
def fnExactAnomalyOfSpec : ChangeSpec := { name := "fnExactAnomalyOf", fn := fun _ => fun
  | [d1, d2] => { results := [.lit (.bool true)], args := [d1, d2] }
  | _ => none }
def fnExactAnomalyOfRow : OpenClaim := { program := "ytdhdifoenladpaa", sum := "823e09cd6f6a6a9e05be932aa7521123f3aee9138b51545ae8733546ac445358", func := "loop.example/g00889/laws.FnExactAnomalyOf", spec := "fnExactAnomalyOf", unfollowed := true, recurses := true, apart := false }
def FnExactAnomalyOfSaid : Prop := fnExactAnomalyOfRow.holds Try.pinned (OpenSpec.ofChange fnExactAnomalyOfSpec)

/-- ITS FALSE NEIGHBOUR: 'it returns false'. Refute it at one input. -/
def fnExactAnomalyOfWrong : ChangeSpec := { name := "fnExactAnomalyOf", fn := fun _ => fun
  | [d1, d2] => { results := [.lit (.bool false)], args := [d1, d2] }
  | _ => none }
def FnExactAnomalyOfWrongFalsely : Prop := fnExactAnomalyOfRow.holds Try.pinned (OpenSpec.ofChange fnExactAnomalyOfWrong)

/-- 'laws.FnExactTenDayMeans': WHATEVER THE INPUT: true; the input reads as it did. -/
def fnExactTenDayMeansSpec : ChangeSpec := { name := "fnExactTenDayMeans", fn := fun _ => fun
  | [d] => { results := [.lit (.bool true)], args := [d] }
  | _ => none }
def fnExactTenDayMeansRow : OpenClaim := { program := "ytdhdifoenladpaa", sum := "823e09cd6f6a6a9e05be932aa7521123f3aee9138b51545ae8733546ac445358", func := "loop.example/g00889/laws.FnExactTenDayMeans", spec := "fnExactTenDayMeans", unfollowed := true, recurses := true, apart := false }
def FnExactTenDayMeansSaid : Prop := fnExactTenDayMeansRow.holds Try.pinned (OpenSpec.ofChange fnExactTenDayMeansSpec)

/-- ITS FALSE NEIGHBOUR: 'it returns false'. Refute it at one input. -/
def fnExactTenDayMeansWrong : ChangeSpec := { name := "fnExactTenDayMeans", fn := fun _ => fun
  | [d] => { results := [.lit (.bool false)], args := [d] }
  | _ => none }
def FnExactTenDayMeansWrongFalsely : Prop := fnExactTenDayMeansRow.holds Try.pinned (OpenSpec.ofChange fnExactTenDayMeansWrong)

/-- 'laws.FnSpells': WHATEVER THE INPUT: true; the input reads as it did. -/
def fnSpellsSpec : ChangeSpec := { name := "fnSpells", fn := fun _ => fun
  | [d] => { results := [.lit (.bool true)], args := [d] }
  | _ => none }
def fnSpellsRow : OpenClaim := { program := "ytdhdifoenladpaa", sum := "823e09cd6f6a6a9e05be932aa7521123f3aee9138b51545ae8733546ac445358", func := "loop.example/g00889/laws.FnSpells", spec := "fnSpells", unfollowed := true, recurses := true, apart := false }
def FnSpellsSaid : Prop := fnSpellsRow.holds Try.pinned (OpenSpec.ofChange fnSpellsSpec)

/-- ITS FALSE NEIGHBOUR: 'it returns false'. Refute it at one input. -/
def fnSpellsWrong : ChangeSpec := { name := "fnSpells", fn := fun _ => fun
  | [d] => { results := [.lit (.bool false)], args := [d] }
  | _ => none }
def FnSpellsWrongFalsely : Prop := fnSpellsRow.holds Try.pinned (OpenSpec.ofChange fnSpellsWrong)

/-- 'laws.FnSeries': WHATEVER THE INPUT: true; the input reads as it did. -/
def fnSeriesSpec : ChangeSpec := { name := "fnSeries", fn := fun _ => fun
  | [d] => { results := [.lit (.bool true)], args := [d] }
  | _ => none }
def fnSeriesRow : OpenClaim := { program := "ytdhdifoenladpaa", sum := "823e09cd6f6a6a9e05be932aa7521123f3aee9138b51545ae8733546ac445358", func := "loop.example/g00889/laws.FnSeries", spec := "fnSeries", unfollowed := true, recurses := true, apart := false }
def FnSeriesSaid : Prop := fnSeriesRow.holds Try.pinned (OpenSpec.ofChange fnSeriesSpec)

/-- ITS FALSE NEIGHBOUR: 'it returns false'. Refute it at one input. -/
def fnSeriesWrong : ChangeSpec := { name := "fnSeries", fn := fun _ => fun
  | [d] => { results := [.lit (.bool false)], args := [d] }
  | _ => none }
def FnSeriesWrongFalsely : Prop := fnSeriesRow.holds Try.pinned (OpenSpec.ofChange fnSeriesWrong)

/- THE SECOND FORM. 'bulk': how many values and letters a reading holds, each counted each time it is reached (what is shared counts as often as it is met; a slice's spare places count too). A statement '..UptoSaid' is the law's where the arguments, and the package variables that the reading takes, are together of bulk at most 1048576: NARROWER than '..Said'. Prove '..Said' where nothing that the law and all that it calls make is longer than what came in: it says more and counts as full. Else prove '..UptoSaid'. A law counts once. -/
mutual
def uptoBulk {H : Type} : DataW H → Nat
  | .lit (.string bytes) => bytes.length + 1
  | .lit _ => 1
  | .nil => 1
  | .ptr d => uptoBulk d + 1
  | .slice elems spare => uptoBulkAll elems + uptoBulkAll spare + 1
  | .agg parts => uptoBulkAll parts + 1
  | .iface _ d => uptoBulk d + 1
  | .map entries => uptoBulkEntries entries + 1
  | .held _ => 1
def uptoBulkAll {H : Type} : List (DataW H) → Nat
  | [] => 0
  | d :: r => uptoBulk d + uptoBulkAll r
def uptoBulkEntries {H : Type} : List (Lit × DataW H) → Nat
  | [] => 0
  | x :: r => uptoBulkEntry x + uptoBulkEntries r
def uptoBulkEntry {H : Type} : Lit × DataW H → Nat
  | (.string bytes, d) => bytes.length + uptoBulk d + 1
  | (_, d) => uptoBulk d + 1
 end
def uptoSmall : (H : Type) → List (DataW H) → Bool := fun _ ds => decide (uptoBulkAll ds ≤ 1048576)
def OpenSpec.upto (s : _root_.Go.ChangeSpec) : _root_.Go.OpenSpec := { _root_.Go.OpenSpec.ofChange s with cond := some uptoSmall }

/-- 'laws.FnExactIsValidSeries', WHERE WHAT IT READS IS OF BULK AT MOST 1048576: true; the input reads as it did. -/
def fnExactIsValidSeriesUptoRow : OpenClaim := { program := "ytdhdifoenladpaa", sum := "823e09cd6f6a6a9e05be932aa7521123f3aee9138b51545ae8733546ac445358", func := "loop.example/g00889/laws.FnExactIsValidSeries", spec := "fnExactIsValidSeries", unfollowed := true, recurses := true, apart := false, narrowed := true }
def FnExactIsValidSeriesUptoSaid : Prop := fnExactIsValidSeriesUptoRow.holds Try.pinned (OpenSpec.upto fnExactIsValidSeriesSpec)

/-- 'laws.FnExactLongestSpell', WHERE WHAT IT READS IS OF BULK AT MOST 1048576: true; the input reads as it did. -/
def fnExactLongestSpellUptoRow : OpenClaim := { program := "ytdhdifoenladpaa", sum := "823e09cd6f6a6a9e05be932aa7521123f3aee9138b51545ae8733546ac445358", func := "loop.example/g00889/laws.FnExactLongestSpell", spec := "fnExactLongestSpell", unfollowed := true, recurses := true, apart := false, narrowed := true }
def FnExactLongestSpellUptoSaid : Prop := fnExactLongestSpellUptoRow.holds Try.pinned (OpenSpec.upto fnExactLongestSpellSpec)

/-- 'laws.FnExactRecordDays', WHERE WHAT IT READS IS OF BULK AT MOST 1048576: true; the input reads as it did. -/
def fnExactRecordDaysUptoRow : OpenClaim := { program := "ytdhdifoenladpaa", sum := "823e09cd6f6a6a9e05be932aa7521123f3aee9138b51545ae8733546ac445358", func := "loop.example/g00889/laws.FnExactRecordDays", spec := "fnExactRecordDays", unfollowed := true, recurses := true, apart := false, narrowed := true }
def FnExactRecordDaysUptoSaid : Prop := fnExactRecordDaysUptoRow.holds Try.pinned (OpenSpec.upto fnExactRecordDaysSpec)

/-- 'laws.FnExactRankOfDay', WHERE WHAT IT READS IS OF BULK AT MOST 1048576: true; the input reads as it did. -/
def fnExactRankOfDayUptoRow : OpenClaim := { program := "ytdhdifoenladpaa", sum := "823e09cd6f6a6a9e05be932aa7521123f3aee9138b51545ae8733546ac445358", func := "loop.example/g00889/laws.FnExactRankOfDay", spec := "fnExactRankOfDay", unfollowed := true, recurses := true, apart := false, narrowed := true }
def FnExactRankOfDayUptoSaid : Prop := fnExactRankOfDayUptoRow.holds Try.pinned (OpenSpec.upto fnExactRankOfDaySpec)

/-- 'laws.FnExactHighestDay', WHERE WHAT IT READS IS OF BULK AT MOST 1048576: true; the input reads as it did. -/
def fnExactHighestDayUptoRow : OpenClaim := { program := "ytdhdifoenladpaa", sum := "823e09cd6f6a6a9e05be932aa7521123f3aee9138b51545ae8733546ac445358", func := "loop.example/g00889/laws.FnExactHighestDay", spec := "fnExactHighestDay", unfollowed := true, recurses := true, apart := false, narrowed := true }
def FnExactHighestDayUptoSaid : Prop := fnExactHighestDayUptoRow.holds Try.pinned (OpenSpec.upto fnExactHighestDaySpec)

/-- 'laws.FnExactLowestDay', WHERE WHAT IT READS IS OF BULK AT MOST 1048576: true; the input reads as it did. -/
def fnExactLowestDayUptoRow : OpenClaim := { program := "ytdhdifoenladpaa", sum := "823e09cd6f6a6a9e05be932aa7521123f3aee9138b51545ae8733546ac445358", func := "loop.example/g00889/laws.FnExactLowestDay", spec := "fnExactLowestDay", unfollowed := true, recurses := true, apart := false, narrowed := true }
def FnExactLowestDayUptoSaid : Prop := fnExactLowestDayUptoRow.holds Try.pinned (OpenSpec.upto fnExactLowestDaySpec)

/-- 'laws.FnExactFillGaps', WHERE WHAT IT READS IS OF BULK AT MOST 1048576: true; the input reads as it did. -/
def fnExactFillGapsUptoRow : OpenClaim := { program := "ytdhdifoenladpaa", sum := "823e09cd6f6a6a9e05be932aa7521123f3aee9138b51545ae8733546ac445358", func := "loop.example/g00889/laws.FnExactFillGaps", spec := "fnExactFillGaps", unfollowed := true, recurses := true, apart := false, narrowed := true }
def FnExactFillGapsUptoSaid : Prop := fnExactFillGapsUptoRow.holds Try.pinned (OpenSpec.upto fnExactFillGapsSpec)

/-- 'laws.FnExactSeriesMean', WHERE WHAT IT READS IS OF BULK AT MOST 1048576: true; the input reads as it did. -/
def fnExactSeriesMeanUptoRow : OpenClaim := { program := "ytdhdifoenladpaa", sum := "823e09cd6f6a6a9e05be932aa7521123f3aee9138b51545ae8733546ac445358", func := "loop.example/g00889/laws.FnExactSeriesMean", spec := "fnExactSeriesMean", unfollowed := true, recurses := true, apart := false, narrowed := true }
def FnExactSeriesMeanUptoSaid : Prop := fnExactSeriesMeanUptoRow.holds Try.pinned (OpenSpec.upto fnExactSeriesMeanSpec)

/-- 'laws.FnExactAnomalyOf', WHERE WHAT IT READS IS OF BULK AT MOST 1048576: true; the input reads as it did. -/
def fnExactAnomalyOfUptoRow : OpenClaim := { program := "ytdhdifoenladpaa", sum := "823e09cd6f6a6a9e05be932aa7521123f3aee9138b51545ae8733546ac445358", func := "loop.example/g00889/laws.FnExactAnomalyOf", spec := "fnExactAnomalyOf", unfollowed := true, recurses := true, apart := false, narrowed := true }
def FnExactAnomalyOfUptoSaid : Prop := fnExactAnomalyOfUptoRow.holds Try.pinned (OpenSpec.upto fnExactAnomalyOfSpec)

/-- 'laws.FnExactTenDayMeans', WHERE WHAT IT READS IS OF BULK AT MOST 1048576: true; the input reads as it did. -/
def fnExactTenDayMeansUptoRow : OpenClaim := { program := "ytdhdifoenladpaa", sum := "823e09cd6f6a6a9e05be932aa7521123f3aee9138b51545ae8733546ac445358", func := "loop.example/g00889/laws.FnExactTenDayMeans", spec := "fnExactTenDayMeans", unfollowed := true, recurses := true, apart := false, narrowed := true }
def FnExactTenDayMeansUptoSaid : Prop := fnExactTenDayMeansUptoRow.holds Try.pinned (OpenSpec.upto fnExactTenDayMeansSpec)

/-- 'laws.FnSpells', WHERE WHAT IT READS IS OF BULK AT MOST 1048576: true; the input reads as it did. -/
def fnSpellsUptoRow : OpenClaim := { program := "ytdhdifoenladpaa", sum := "823e09cd6f6a6a9e05be932aa7521123f3aee9138b51545ae8733546ac445358", func := "loop.example/g00889/laws.FnSpells", spec := "fnSpells", unfollowed := true, recurses := true, apart := false, narrowed := true }
def FnSpellsUptoSaid : Prop := fnSpellsUptoRow.holds Try.pinned (OpenSpec.upto fnSpellsSpec)

/-- 'laws.FnSeries', WHERE WHAT IT READS IS OF BULK AT MOST 1048576: true; the input reads as it did. -/
def fnSeriesUptoRow : OpenClaim := { program := "ytdhdifoenladpaa", sum := "823e09cd6f6a6a9e05be932aa7521123f3aee9138b51545ae8733546ac445358", func := "loop.example/g00889/laws.FnSeries", spec := "fnSeries", unfollowed := true, recurses := true, apart := false, narrowed := true }
def FnSeriesUptoSaid : Prop := fnSeriesUptoRow.holds Try.pinned (OpenSpec.upto fnSeriesSpec)

end Rows
end Go.Proofs.Ytdhdifoenladpaa
