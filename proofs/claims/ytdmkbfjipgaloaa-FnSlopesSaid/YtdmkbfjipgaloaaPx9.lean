-- Made by pp.py of this session out of the kit's print and of contracts proved by hand; Lean checks it.
import Derived.Test.YtdmkbfjipgaloaaPx0
import Derived.Test.YtdmkbfjipgaloaaPx3
import Derived.Test.YtdmkbfjipgaloaaPx4
import Derived.Test.YtdmkbfjipgaloaaPx6
namespace Go.Proofs.Ytdmkbfjipgaloaa.P
open Go.RowKit Go.Proofs.YtdmkbfjipgaloaaW.PrintWords Go.Proofs.YtdmkbfjipgaloaaW.PrintLast Go.Proofs.YtdmkbfjipgaloaaW.PrintMore
attribute [local go_sem] max2_int min2_int max_two min_two max_three min_three max_four min_four   -- for this text's walks alone
set_option linter.unusedVariables false
set_option linter.unusedSimpArgs false

/-! ### spec_l1Rising: function 103 -/
/-! ### spec_l8Region: function 90 -/
/-! ### spec_l23Asked: function 55 -/
/-! ### impl_isShape: function 104 -/
/-! ### impl_increasing: function 105 -/
/-! ### impl_allWithin: function 106 -/
/-! ### impl_isRegion: function 92 -/
/-! ### impl_isRegionOf: function 58 -/
end Go.Proofs.Ytdmkbfjipgaloaa.P
