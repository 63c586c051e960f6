-- Made by pp.py of this session out of the kit's print and of contracts proved by hand; Lean checks it.
import Derived.Test.YtdmkbfjipgaloaaPx0
import Derived.Test.YtdmkbfjipgaloaaPx6
namespace Go.Proofs.Ytdmkbfjipgaloaa.P
open Go.RowKit Go.Proofs.YtdmkbfjipgaloaaW.PrintWords Go.Proofs.YtdmkbfjipgaloaaW.PrintLast Go.Proofs.YtdmkbfjipgaloaaW.PrintMore
attribute [local go_sem] max2_int min2_int max_two min_two max_three min_three max_four min_four   -- for this text's walks alone
set_option linter.unusedVariables false
set_option linter.unusedSimpArgs false

def fnval2.f (F : Int → Int → Option Int) (c0_ : Int) (c1_ : Int) : Option Int := F c0_ c1_
/-! ### impl_editedField: function 60 -/
end Go.Proofs.Ytdmkbfjipgaloaa.P
