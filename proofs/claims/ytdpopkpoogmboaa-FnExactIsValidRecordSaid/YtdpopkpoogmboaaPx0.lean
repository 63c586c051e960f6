-- Made by pp.py of this session out of the kit's print and of contracts proved by hand; Lean checks it.
import Derived.Test.YtdpopkpoogmboaaProg
import Derived.Below
import Derived.Deep.Draws
import Derived.Deep.AppendLies
import Derived.Maps.AppendAt
import Derived.OwnWalk
import Derived.Laws.BytesArg
import Derived.Laws.MakeOwn
import Derived.Laws.OwnMore
import Derived.Deep.OwnRows
import Derived.Tactics
import Derived.Lib.ConvBytes
import Derived.Laws.Slices
import Derived.WalkKit
import Derived.KernelRfl
import Derived.RowKit3
import Derived.Deep.LoopGhost
import Derived.Deep.QuietTactic
import Derived.BigQuiet
import Derived.WideLaws
import Derived.Deep.DeepCutAuto
import Derived.Deep.CutBlock
import Derived.Deep.RegionHeld3
import Derived.Laws.Rows
import Derived.Lib.AppendStr
import Derived.ArgAppend
import Derived.Laws.IdiomCopy
import Derived.OrdersHeld
import Derived.Laws.BitsLemmas
import Derived.RowKit
import Derived.Test.YtdpopkpoogmboaaShelf
import Derived.Test.YtdpopkpoogmboaaWWords
import Derived.Test.YtdpopkpoogmboaaWLast
import Derived.Test.YtdpopkpoogmboaaWTab
import Derived.Test.YtdpopkpoogmboaaWFour
import Derived.Test.YtdpopkpoogmboaaWQPut
import Derived.Test.YtdpopkpoogmboaaWApart
import Derived.Test.YtdpopkpoogmboaaWArr
import Derived.Test.YtdpopkpoogmboaaWZeros
import Derived.Test.YtdpopkpoogmboaaWFoot
import Derived.Test.YtdpopkpoogmboaaWKept
import Derived.Test.YtdpopkpoogmboaaWShare
import Derived.Test.YtdpopkpoogmboaaWN
import Derived.Test.YtdpopkpoogmboaaWFootNe
import Derived.Test.YtdpopkpoogmboaaWAt
import Derived.Test.YtdpopkpoogmboaaWEqStruct
import Derived.Test.YtdpopkpoogmboaaWRepsOne
import Derived.Test.YtdpopkpoogmboaaWInv
import Derived.Test.YtdpopkpoogmboaaWInvWords
import Derived.Test.YtdpopkpoogmboaaWGuard
import Derived.Test.YtdpopkpoogmboaaWNEv
import Derived.Test.YtdpopkpoogmboaaWMore
namespace Go.Proofs.Ytdpopkpoogmboaa.P
open Go.RowKit Go.Proofs.YtdpopkpoogmboaaW.PrintWords Go.Proofs.YtdpopkpoogmboaaW.PrintLast Go.Proofs.YtdpopkpoogmboaaW.PrintMore
attribute [local go_sem] max2_int min2_int max_two min_two max_three min_three max_four min_four   -- for this text's walks alone
set_option linter.unusedVariables false
set_option linter.unusedSimpArgs false



def errW : Option Int → Value
  | none => .nilIface
  | some c => .iface 0 (.int .i64 c)
theorem errW_none : errW none = .nilIface := rfl
theorem errW_some (c : Int) : errW (some c) = .iface 0 (.int .i64 c) := rfl

-- the values' own types

end Go.Proofs.Ytdpopkpoogmboaa.P
