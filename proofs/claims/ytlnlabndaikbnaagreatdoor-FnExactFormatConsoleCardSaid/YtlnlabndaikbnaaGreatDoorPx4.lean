-- Made by pp.py of this session out of the kit's print and of contracts proved by hand; Lean checks it.
import Derived.Test.YtlnlabndaikbnaaGreatDoorMc
import Derived.Lib.ItoaNum
import Derived.Lib.ItoaLen
import Derived.Deep.QuietTactic
import Derived.Test.YtlnlabndaikbnaaGreatDoorPx0
namespace Go.Proofs.YtlnlabndaikbnaaGreatDoor.P
open Go.RowKit Go.Proofs.YtlnlabndaikbnaaGreatDoorW.PrintWords Go.Proofs.YtlnlabndaikbnaaGreatDoorW.PrintLast Go.Proofs.YtlnlabndaikbnaaGreatDoorW.PrintMore
attribute [local go_sem] max2_int min2_int max_two min_two max_three min_three max_four min_four   -- for this text's walks alone
set_option linter.unusedVariables false
set_option linter.unusedSimpArgs false

-- ALONE
/-! ### spec_l1Num: function 46 -/
theorem digit_one : ∀ d : Fin 10, (⟨#[48, 49, 50, 51, 52, 53, 54, 55, 56, 57]⟩ : ByteArray).extract d.val (d.val + 1) = ⟨#[UInt8.ofNat (48 + d.val)]⟩ := by decide
/-- The decimal text of a number that is not negative. -/
def spec_l1Num.f (a0 : Int) : Option ByteArray := if 0 ≤ a0 then (if a0 ≤ 9223372036854775807 then some ⟨(Lib.itoa a0).toArray⟩ else none) else none
theorem itoa_nat (n : Nat) : Lib.itoa (n : Int) = Lib.decDigits n := by unfold Lib.itoa; rw [if_neg (by omega)]; rfl
set_option maxHeartbeats 4000000 in
set_option maxRecDepth 100000 in
theorem l1Num_nat : ∀ (m n : Nat), n < m → n ≤ 9223372036854775807 → ∀ w : World, Calls Tryz.prog 46 #[.int .i64 (n : Int)] w fun e w' => e = .returned (.string ⟨(Lib.decDigits n).toArray⟩) ∧ Drawn0 w w' := by
  intro m
  induction m with
  | zero => intro n h; exact absurd h (Nat.not_lt_zero _)
  | succ m ih =>
    intro n hn hmx w
    have d0 : decide ((n : Int) < 0) = false := decide_eq_false (by omega)
    by_cases h : n < 10
    · have d1 : decide ((n : Int) < 10) = true := decide_eq_true (by omega)
      have hw : wrap64 ((n : Int) + 1) = (n : Int) + 1 := by unfold wrap64; omega
      have E := A_ (show (⟨#[48, 49, 50, 51, 52, 53, 54, 55, 56, 57]⟩ : ByteArray).extract n (n + 1) = ⟨(Lib.decDigits n).toArray⟩ by rw [digit_one ⟨n, h⟩, Lib.decDigits_one h])
      have f1 : (0 : Int) ≤ (n : Int) := by omega
      have f2 : (n : Int) ≤ (n : Int) + 1 := by omega
      have f3 : (n : Int) + 1 ≤ 10 := by omega
      go_enter Tryz.func46, Tryz.ntmps46
      go_wp2
      go_ret
      exact ⟨by rw [← E.out]; rfl, mc137⟩
    · have d1 : decide ((n : Int) < 10) = false := decide_eq_false (by omega)
      have d0' := d0
      have hq : wrap64 (Int.tdiv (n : Int) 10) = ((n / 10 : Nat) : Int) := by rw [show Int.tdiv (n : Int) 10 = ((n / 10 : Nat) : Int) from rfl]; unfold wrap64; omega
      obtain ⟨T, hT⟩ : ∃ T : ByteArray, T = ⟨(Lib.decDigits (n / 10)).toArray⟩ := ⟨_, rfl⟩
      have hTs : T.size ≤ 20 := by
        have h1 : T.size = (Lib.decDigits (n / 10)).length := by rw [hT]; exact List.size_toArray
        rw [h1, Lib.decDigits_length]
        exact Lib.nDigits_le20 _ (by omega)
      obtain ⟨j, hj⟩ : ∃ j : Int, Int.tmod (n : Int) 10 = j := ⟨_, rfl⟩
      have hjn : j = ((n % 10 : Nat) : Int) := by rw [← hj]; rfl
      have h0 : 0 ≤ j := by omega
      have h9 : j ≤ 9 := by omega
      have hw : wrap64 (j + 1) = j + 1 := by unfold wrap64; omega
      have E := A_ (show T ++ (⟨#[48, 49, 50, 51, 52, 53, 54, 55, 56, 57]⟩ : ByteArray).extract j.toNat (wrap64 (j + 1)).toNat = ⟨(Lib.decDigits n).toArray⟩ by
        rw [hw, hjn, show ((n % 10 : Nat) : Int).toNat = n % 10 from by omega, show (((n % 10 : Nat) : Int) + 1).toNat = n % 10 + 1 from by omega, digit_one ⟨n % 10, Nat.mod_lt _ (by decide)⟩, hT]
        conv => rhs; rw [Lib.decDigits, dif_neg h]
        apply ByteArray.ext
        simp)
      have f1 : (0 ≤ j) = True := eq_true h0
      have f2 : (j ≤ wrap64 (j + 1)) = True := eq_true (by omega)
      have f3 : (wrap64 (j + 1) ≤ 10) = True := eq_true (by omega)
      have f4 : (9223372036854775807 < T.size + ((wrap64 (j + 1)).toNat - j.toNat)) = False := eq_false (by omega)
      obtain ⟨q, hqq⟩ : ∃ q : Int, wrap64 (Int.tdiv (n : Int) 10) = q := ⟨_, rfl⟩
      have ih' := A_ (show ∀ W, Calls Tryz.prog 46 #[.int .i64 q] W fun e w' => e = .returned (.string T) ∧ ∃ m, w' = W.drewN m by
        intro W; rw [← hqq, hq, hT]; exact (ih (n / 10) (by omega) (by omega) W).mono fun e w' ⟨he, ⟨m, hm⟩⟩ => ⟨he, m, hm⟩)
      clear hjn hw hq hT hTs h0 h9 ih hn hmx h d0
      generalize (n : Int) = a at d0' d1 hj hqq ⊢
      go_enter Tryz.func46, Tryz.ntmps46
      go_wp2
      go_quiet (first | (go_at_call 46; refine Calls.quiet_of (ih'.out _)))
      go_wp2
      go_ret
      exact ⟨congrArg (fun z => Ending.returned (Value.string z)) E.out, mc137⟩
set_option maxHeartbeats 8000000 in
set_option maxRecDepth 100000 in
theorem spec_l1Num.calls (a0 : Int) (r : ByteArray) (w : World) (h : spec_l1Num.f a0 = some r) :
    Calls Tryz.prog 46 #[.int .i64 a0] w fun e w' => e = .returned (.string r) ∧ Drawn0 w w' := by
  unfold spec_l1Num.f at h
  by_cases h1 : 0 ≤ a0
  · rw [if_pos h1] at h
    by_cases h2 : a0 ≤ 9223372036854775807
    · rw [if_pos h2] at h
      obtain rfl := Option.some.inj h
      obtain ⟨n, rfl⟩ : ∃ n : Nat, a0 = n := ⟨a0.toNat, by omega⟩
      rw [itoa_nat]
      exact l1Num_nat (n + 1) n (by omega) (by omega) w
    · rw [if_neg h2] at h; cases h
  · rw [if_neg h1] at h; cases h

end Go.Proofs.YtlnlabndaikbnaaGreatDoor.P
