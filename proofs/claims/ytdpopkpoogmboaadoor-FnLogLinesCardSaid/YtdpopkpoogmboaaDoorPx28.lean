-- Made by pp.py of this session out of the kit's print and of contracts proved by hand; Lean checks it.
import Derived.Test.YtdpopkpoogmboaaDoorPx0
import Derived.Test.YtdpopkpoogmboaaDoorPx7
import Derived.Test.YtdpopkpoogmboaaDoorPx8
import Derived.Test.YtdpopkpoogmboaaDoorPx10
import Derived.Test.YtdpopkpoogmboaaDoorPx13
namespace Go.Proofs.YtdpopkpoogmboaaDoor.P
open Go.RowKit Go.Proofs.YtdpopkpoogmboaaDoorW.PrintWords Go.Proofs.YtdpopkpoogmboaaDoorW.PrintLast Go.Proofs.YtdpopkpoogmboaaDoorW.PrintMore
attribute [local go_sem] max2_int min2_int max_two min_two max_three min_three max_four min_four   -- for this text's walks alone
set_option linter.unusedVariables false
set_option linter.unusedSimpArgs false

/-! ### impl_AppendRecord: function 29 -/
end Go.Proofs.YtdpopkpoogmboaaDoor.P
