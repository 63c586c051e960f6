-- Made by pp.py of this session out of the kit's print and of contracts proved by hand; Lean checks it.
import Derived.Test.YtgmmanppmjlclaaGreatDoorMc
import Derived.Test.YtgmmanppmjlclaaGreatDoorPx0
import Derived.Test.YtgmmanppmjlclaaGreatDoorPx1
namespace Go.Proofs.YtgmmanppmjlclaaGreatDoor.P
open Go.RowKit Go.Proofs.YtgmmanppmjlclaaGreatDoorW.PrintWords Go.Proofs.YtgmmanppmjlclaaGreatDoorW.PrintLast Go.Proofs.YtgmmanppmjlclaaGreatDoorW.PrintMore
attribute [local go_sem] max2_int min2_int max_two min_two max_three min_three max_four min_four   -- for this text's walks alone
set_option linter.unusedVariables false
set_option linter.unusedSimpArgs false

attribute [local go_sem high] eqA26
/-! ### laws_rArchives: function 8 -/
def laws_rArchives.l0 : Nat → List (S26) → List (S26) → Int → Option (Bool)
  | 0, _, _, _ => none
  | k + 1, x0, x1, x5 => if x5 < (x0.length : Int) then (if 0 ≤ x5 then (if x5 < (x1.length : Int) then (if (!((((rd_T26 x0 x5).f0).toList) == (((rd_T26 x1 x5).f0).toList)) || (!(((rd_T26 x0 x5).f1) == ((rd_T26 x1 x5).f1)) || (!((((rd_T26 x0 x5).f2).toList) == (((rd_T26 x1 x5).f2).toList))))) = true then (some false) else (laws_rArchives.l0 k x0 x1 (wrap64 (x5 + 1)))) else (none)) else (none)) else (some true)
def laws_rArchives.f (k : Nat) (l0 : List (S26)) (l1 : List (S26)) : Option (Bool) := if (l0.length : Int) = (l1.length : Int) then (laws_rArchives.l0 k l0 l1 0) else (some false)
set_option maxHeartbeats 8000000 in
set_option maxRecDepth 100000 in
theorem laws_rArchives.calls (k : Nat) (A0 : Option Addr) (c0 : Nat) (l0 : List (S26)) (A1 : Option Addr) (c1 : Nat) (l1 : List (S26)) (r : Bool) (w : World) (hr0 : Kd.C k26 w A0 l0.length l0) (hc0 : l0.length ≤ c0) (hr1 : Kd.C k26 w A1 l1.length l1) (hc1 : l1.length ≤ c1) (h : laws_rArchives.f k l0 l1 = some r) :
    Calls Tryz.prog 8 #[.slice A0 l0.length c0, .slice A1 l1.length c1] w fun e w' => e = .returned (.bool r) ∧ Drawn0 w w' := by
  have hu26 := Tryz.underlying26
  have HR0 := A_ hr0
  have HC0 := A_ hc0
  clear hr0 hc0
  have HR1 := A_ hr1
  have HC1 := A_ hc1
  clear hr1 hc1
  have H : (if (l0.length : Int) = (l1.length : Int) then (laws_rArchives.l0 k l0 l1 0) else (some false)) = some r := h
  clear h
  by_cases c3 : (l0.length : Int) = (l1.length : Int)
  · rw [if_pos c3] at H
    have c3b0 : ((l0.length : Int) == (l1.length : Int)) = true := beq_iff_eq.mpr c3
    have c3b1 : ((l0.length : Int) != (l1.length : Int)) = false := bne_eq_false_iff_eq.mpr c3
    have c3b2 : (l0.length == l1.length) = true := by first | simpa using c3 | (simp at c3 ⊢; omega)
    clear c3
    have H' := A_ H
    clear H
    go_enter Tryz.func8, Tryz.ntmps8
    go_wp2
    repeat (go_quiet (fail); try go_wp2)
    go_loopg [5] k (fun kq v5 w' => ∃ (x5_1 : Int), v5 = .int .i64 x5_1 ∧ Aside0 (laws_rArchives.l0 kq l0 l1 x5_1 = some r) ∧ Aside0 (kq ≤ k) ∧ Drawn0 w w')
    case atStart => exact ⟨(0), mc82, H', ⟨Nat.le_refl _⟩, mc80⟩
    case round =>
      clear H'
      try clear p2
      try clear c3b0
      try clear c3b1
      try clear c3b2
      obtain ⟨x5_1, rfl, HA, HK1, ⟨m1, rfl⟩⟩ := hrel
      cases gk with
      | zero => exact absurd HA.out (by simp [laws_rArchives.l0])
      | succ k1 =>
        have H := HA.out
        clear HA
        simp only [laws_rArchives.l0] at H
        by_cases c4 : x5_1 < (l0.length : Int)
        · rw [if_pos c4] at H
          have c4b0 : decide (x5_1 < (l0.length : Int)) = true := decide_eq_true c4
          clear c4
          by_cases c5 : 0 ≤ x5_1
          · rw [if_pos c5] at H
            have c5b0 : decide (0 ≤ x5_1) = true := decide_eq_true c5
            clear c5
            by_cases c6 : x5_1 < (l1.length : Int)
            · rw [if_pos c6] at H
              have c6b0 : decide (x5_1 < (l1.length : Int)) = true := decide_eq_true c6
              clear c6
              by_cases c7 : (!((((rd_T26 l0 x5_1).f0).toList) == (((rd_T26 l1 x5_1).f0).toList)) || (!(((rd_T26 l0 x5_1).f1) == ((rd_T26 l1 x5_1).f1)) || (!((((rd_T26 l0 x5_1).f2).toList) == (((rd_T26 l1 x5_1).f2).toList))))) = true
              · rw [if_pos c7] at H
                have c7b0 : (!((((rd_T26 l0 x5_1).f0).toList) == (((rd_T26 l1 x5_1).f0).toList)) || (!(((rd_T26 l0 x5_1).f1) == ((rd_T26 l1 x5_1).f1)) || (!((((rd_T26 l0 x5_1).f2).toList) == (((rd_T26 l1 x5_1).f2).toList))))) = true := c7
                clear c7
                obtain rfl := Option.some.inj H
                have p309 : 0 ≤ (x5_1 : Int) := of_decide_eq_true mc81
                have q309 : x5_1 < (l0.length : Int) := of_decide_eq_true mc81
                obtain ⟨ad309, e309, hx309_0, hx309_1, hx309_2⟩ := at_T26 HR0.out x5_1 p309 q309
                cases e309
                replace p309 := eq_true p309
                replace q309 := eq_true q309
                have p310 : 0 ≤ (x5_1 : Int) := of_decide_eq_true mc81
                have q310 : x5_1 < (l1.length : Int) := of_decide_eq_true mc81
                obtain ⟨ad310, e310, hx310_0, hx310_1, hx310_2⟩ := at_T26 HR1.out x5_1 p310 q310
                cases e310
                replace p310 := eq_true p310
                replace q310 := eq_true q310
                go_wp2
                repeat (go_quiet (fail); try go_wp2)
                go_ret
                exact ⟨mc82, mc80⟩
              · rw [if_neg c7] at H
                have c7b0 : (!((((rd_T26 l0 x5_1).f0).toList) == (((rd_T26 l1 x5_1).f0).toList)) || (!(((rd_T26 l0 x5_1).f1) == ((rd_T26 l1 x5_1).f1)) || (!((((rd_T26 l0 x5_1).f2).toList) == (((rd_T26 l1 x5_1).f2).toList))))) = false := by simpa using c7
                clear c7
                have H' := A_ H
                clear H
                have p309 : 0 ≤ (x5_1 : Int) := of_decide_eq_true mc81
                have q309 : x5_1 < (l0.length : Int) := of_decide_eq_true mc81
                obtain ⟨ad309, e309, hx309_0, hx309_1, hx309_2⟩ := at_T26 HR0.out x5_1 p309 q309
                cases e309
                replace p309 := eq_true p309
                replace q309 := eq_true q309
                have p310 : 0 ≤ (x5_1 : Int) := of_decide_eq_true mc81
                have q310 : x5_1 < (l1.length : Int) := of_decide_eq_true mc81
                obtain ⟨ad310, e310, hx310_0, hx310_1, hx310_2⟩ := at_T26 HR1.out x5_1 p310 q310
                cases e310
                replace p310 := eq_true p310
                replace q310 := eq_true q310
                go_wp2
                repeat (go_quiet (fail); try go_wp2)
                go_roundg k1
                case measure => have := HK1.out; omega
                case rel => exact ⟨(wrap64 (x5_1 + 1)), mc82, H', ⟨mc86⟩, mc80⟩
            · rw [if_neg c6] at H
              exact absurd H (by simp)
          · rw [if_neg c5] at H
            exact absurd H (by simp)
        · rw [if_neg c4] at H
          have c4b0 : decide (x5_1 < (l0.length : Int)) = false := decide_eq_false c4
          clear c4
          obtain rfl := Option.some.inj H
          go_wp2
          repeat (go_quiet (fail); try go_wp2)
          go_ret
          exact ⟨mc82, mc80⟩
  · rw [if_neg c3] at H
    have c3b0 : ((l0.length : Int) == (l1.length : Int)) = false := beq_eq_false_iff_ne.mpr c3
    have c3b1 : ((l0.length : Int) != (l1.length : Int)) = true := bne_iff_ne.mpr c3
    have c3b2 : (l0.length == l1.length) = false := by first | simpa using c3 | (simp at c3 ⊢; omega)
    obtain rfl := Option.some.inj H
    go_enter Tryz.func8, Tryz.ntmps8
    go_wp2
    repeat (go_quiet (fail); try go_wp2)
    go_ret
    exact ⟨mc82, mc80⟩

-- NOT PRINTED: function 59 (slices_Backward_impl_Product)

-- NOT PRINTED: function 75 (slices_Backward_impl_Product_1)

end Go.Proofs.YtgmmanppmjlclaaGreatDoor.P
