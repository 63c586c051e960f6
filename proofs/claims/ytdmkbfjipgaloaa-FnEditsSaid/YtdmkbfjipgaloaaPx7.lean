-- Made by pp.py of this session out of the kit's print and of contracts proved by hand; Lean checks it.
import Derived.Test.YtdmkbfjipgaloaaPx0
namespace Go.Proofs.Ytdmkbfjipgaloaa.P
open Go.RowKit Go.Proofs.YtdmkbfjipgaloaaW.PrintWords Go.Proofs.YtdmkbfjipgaloaaW.PrintLast Go.Proofs.YtdmkbfjipgaloaaW.PrintMore
attribute [local go_sem] max2_int min2_int max_two min_two max_three min_three max_four min_four   -- for this text's walks alone
set_option linter.unusedVariables false
set_option linter.unusedSimpArgs false

/-! ### laws_szIntS: function 54 -/
/-! ### laws_szField: function 20 -/
/-! ### laws_toIntS: function 23 -/
/-! ### laws_toField: function 22 -/
/-! ### laws_eqIntS: function 26 -/
/-! ### laws_eqField: function 25 -/
/-! ### laws_markIntS: function 28 -/
/-! ### laws_markField: function 27 -/
/-! ### laws_heldIntS: function 62 -/
def laws_heldIntS.l0 : Nat → List Int → Int → Int → Option (Int)
 | 0, _, _, _ => none
 | k + 1, x0, x1, x5 => if x5 < (x0.length : Int) then (if 0 ≤ x5 then (if (rd x0 x5) = x1 then (laws_heldIntS.l0 k x0 (wrap64 (x1 + 1)) (wrap64 (x5 + 1))) else (some (-1))) else (none)) else (some x1)
def laws_heldIntS.f (k : Nat) (l0 : List Int) (a1 : Int) : Option (Int) := laws_heldIntS.l0 k l0 a1 0
/-! ### laws_heldField: function 29 -/
end Go.Proofs.Ytdmkbfjipgaloaa.P
