-- Made by pp.py of this session out of the kit's print and of contracts proved by hand; Lean checks it.
import Derived.Test.YtlnlabndaikbnaaGreatDoorShelf
import Derived.Test.YtlnlabndaikbnaaGreatDoorPx0
namespace Go.Proofs.YtlnlabndaikbnaaGreatDoor.P
open Go.RowKit Go.Proofs.YtlnlabndaikbnaaGreatDoorW.PrintWords Go.Proofs.YtlnlabndaikbnaaGreatDoorW.PrintLast Go.Proofs.YtlnlabndaikbnaaGreatDoorW.PrintMore
attribute [local go_sem] max2_int min2_int max_two min_two max_three min_three max_four min_four   -- for this text's walks alone
set_option linter.unusedVariables false
set_option linter.unusedSimpArgs false

-- ALONE
/-! ### strings_ContainsAny: function 150 -/
def asciiB (s : ByteArray) : Bool := s.data.toList.all fun b => decide (b.toNat < 128)
theorem asciiB_at {s : ByteArray} (h : asciiB s = true) : ∀ (j : Nat) b, s.data.toList[j]? = some b → b.toNat < 128 := fun j b hb => by
  have := List.all_eq_true.mp h b (List.mem_of_getElem? hb)
  simpa using this
def strings_ContainsAny.f (a0 a1 : ByteArray) : Option Bool := if ((asciiB a0 && asciiB a1) && (decide (a0.size < 4294967281) && decide (a1.size < 4294967281))) = true then some (Lib.containsAny a0.data.toList a1.data.toList) else none
set_option maxHeartbeats 8000000 in
set_option maxRecDepth 100000 in
theorem strings_ContainsAny.calls (a0 : ByteArray) (a1 : ByteArray) (r : Bool) (w : World) (h : strings_ContainsAny.f a0 a1 = some r) :
    Calls Tryz.prog 150 #[.string a0, .string a1] w fun e w' => e = .returned (.bool r) ∧ Below w.heap.size w w' := by
  unfold strings_ContainsAny.f at h
  by_cases h1 : ((asciiB a0 && asciiB a1) && (decide (a0.size < 4294967281) && decide (a1.size < 4294967281))) = true
  · rw [if_pos h1] at h
    obtain rfl := Option.some.inj h
    simp only [Bool.and_eq_true, decide_eq_true_eq] at h1
    exact Tryz.strings_ContainsAny_laid a0 a1 w h1.2.1 h1.2.2 (asciiB_at h1.1.1) (asciiB_at h1.1.2)
  · rw [if_neg h1] at h; cases h

end Go.Proofs.YtlnlabndaikbnaaGreatDoor.P
