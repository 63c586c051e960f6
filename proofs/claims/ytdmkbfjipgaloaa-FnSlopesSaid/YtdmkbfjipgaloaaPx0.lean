-- Made by pp.py of this session out of the kit's print and of contracts proved by hand; Lean checks it.
import Derived.Test.YtdmkbfjipgaloaaProg
import Derived.Below
import Derived.Deep.Draws
import Derived.Deep.AppendLies
import Derived.Maps.AppendAt
import Derived.OwnWalk
import Derived.Laws.BytesArg
import Derived.Laws.MakeOwn
import Derived.Laws.OwnMore
import Derived.Deep.OwnRows
import Derived.Tactics
import Derived.Lib.ConvBytes
import Derived.Laws.Slices
import Derived.WalkKit
import Derived.KernelRfl
import Derived.RowKit3
import Derived.Deep.LoopGhost
import Derived.Deep.QuietTactic
import Derived.BigQuiet
import Derived.WideLaws
import Derived.Deep.DeepCutAuto
import Derived.Deep.CutBlock
import Derived.Deep.RegionHeld3
import Derived.Laws.Rows
import Derived.Lib.AppendStr
import Derived.ArgAppend
import Derived.Laws.IdiomCopy
import Derived.OrdersHeld
import Derived.Laws.BitsLemmas
import Derived.RowKit
import Derived.Lib.OwnBridge
import Derived.Lib.Walk
import Derived.Shelf.Abstract
import Derived.Shelf.SlicesE.DeleteFunc
import Derived.Test.YtdmkbfjipgaloaaShelf
import Derived.WalkSpells
import Derived.Test.YtdmkbfjipgaloaaWWords
import Derived.Test.YtdmkbfjipgaloaaWLast
import Derived.Test.YtdmkbfjipgaloaaWTab
import Derived.Test.YtdmkbfjipgaloaaWFour
import Derived.Test.YtdmkbfjipgaloaaWQPut
import Derived.Test.YtdmkbfjipgaloaaWApart
import Derived.Test.YtdmkbfjipgaloaaWArr
import Derived.Test.YtdmkbfjipgaloaaWZeros
import Derived.Test.YtdmkbfjipgaloaaWFoot
import Derived.Test.YtdmkbfjipgaloaaWKept
import Derived.Test.YtdmkbfjipgaloaaWShare
import Derived.Test.YtdmkbfjipgaloaaWN
import Derived.Test.YtdmkbfjipgaloaaWFootNe
import Derived.Test.YtdmkbfjipgaloaaWAt
import Derived.Test.YtdmkbfjipgaloaaWEqStruct
import Derived.Test.YtdmkbfjipgaloaaWRepsOne
import Derived.Test.YtdmkbfjipgaloaaWInv
import Derived.Test.YtdmkbfjipgaloaaWInvWords
import Derived.Test.YtdmkbfjipgaloaaWGuard
import Derived.Test.YtdmkbfjipgaloaaWNEv
import Derived.Test.YtdmkbfjipgaloaaWMore
namespace Go.Proofs.Ytdmkbfjipgaloaa.P
open Go.RowKit Go.Proofs.YtdmkbfjipgaloaaW.PrintWords Go.Proofs.YtdmkbfjipgaloaaW.PrintLast Go.Proofs.YtdmkbfjipgaloaaW.PrintMore
attribute [local go_sem] max2_int min2_int max_two min_two max_three min_three max_four min_four   -- for this text's walks alone
set_option linter.unusedVariables false
set_option linter.unusedSimpArgs false

def errW : Option Int → Value
  | none => .nilIface
  | some c => .iface 0 (.int .i64 c)
theorem errW_none : errW none = .nilIface := rfl
theorem errW_some (c : Int) : errW (some c) = .iface 0 (.int .i64 c) := rfl

theorem info3 : (Try.prog.info? 3).map (fun i => (i.zero, i.size, i.bytes)) = some (some (.int .i64 0), 1, 8) := by kernel_rfl
-- the values' own types
/-! #### struct type 26 -/
end Go.Proofs.Ytdmkbfjipgaloaa.P
