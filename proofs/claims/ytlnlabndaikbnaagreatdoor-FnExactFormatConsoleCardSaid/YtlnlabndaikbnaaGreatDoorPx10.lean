-- Made by pp.py of this session out of the kit's print and of contracts proved by hand; Lean checks it.
import Derived.Test.YtlnlabndaikbnaaGreatDoorMc
import Derived.Test.YtlnlabndaikbnaaGreatDoorPx0
import Derived.Test.YtlnlabndaikbnaaGreatDoorPx4
import Derived.Test.YtlnlabndaikbnaaGreatDoorPx9
namespace Go.Proofs.YtlnlabndaikbnaaGreatDoor.P
open Go.RowKit Go.Proofs.YtlnlabndaikbnaaGreatDoorW.PrintWords Go.Proofs.YtlnlabndaikbnaaGreatDoorW.PrintLast Go.Proofs.YtlnlabndaikbnaaGreatDoorW.PrintMore
attribute [local go_sem] max2_int min2_int max_two min_two max_three min_three max_four min_four   -- for this text's walks alone
set_option linter.unusedVariables false
set_option linter.unusedSimpArgs false

/-! ### spec_l17Line: function 45 -/
theorem spec_l17Line_Mspec_l1Num.calls (a0 : Int) (r : ByteArray) (w : World) (h : spec_l1Num.f a0 = some r) : Calls Tryz.prog 46 #[.int .i64 a0] w fun e w' => e = .returned (.string r) ∧ Below w.heap.size w w' :=
 (spec_l1Num.calls a0 r w h).mono fun e w' ⟨he, n, hw⟩ => ⟨he, hw ▸ pw_below_drewN (Below.refl _ _) n⟩
def spec_l17Line.f (a0_0 : Int) (a0_1 : Int) (a0_2 : Int) (a0_3 : Int) (a0_4 : Int) (a0_5 : Int) : Option (ByteArray) := (spec_l1Num.f a0_0).bind fun t187 => (if t187.size + 2 ≤ 9223372036854775807 then ((spec_l17Levels.f).bind fun t188 => (if 0 ≤ a0_2 then (if a0_2 < (t188.length : Int) then (if (t187 ++ (⟨#[58, 32]⟩ : ByteArray)).size + (rdOf ByteArray.empty t188 a0_2).size ≤ 9223372036854775807 then (if ((t187 ++ (⟨#[58, 32]⟩ : ByteArray)) ++ (rdOf ByteArray.empty t188 a0_2)).size + 1 ≤ 9223372036854775807 then ((spec_l17Topics.f).bind fun t192 => (if 0 ≤ a0_1 then (if a0_1 < (t192.length : Int) then (if (((t187 ++ (⟨#[58, 32]⟩ : ByteArray)) ++ (rdOf ByteArray.empty t188 a0_2)) ++ (⟨#[32]⟩ : ByteArray)).size + (rdOf ByteArray.empty t192 a0_1).size ≤ 9223372036854775807 then (if ((((t187 ++ (⟨#[58, 32]⟩ : ByteArray)) ++ (rdOf ByteArray.empty t188 a0_2)) ++ (⟨#[32]⟩ : ByteArray)) ++ (rdOf ByteArray.empty t192 a0_1)).size + 7 ≤ 9223372036854775807 then ((spec_l1Num.f a0_3).bind fun t196 => (if (((((t187 ++ (⟨#[58, 32]⟩ : ByteArray)) ++ (rdOf ByteArray.empty t188 a0_2)) ++ (⟨#[32]⟩ : ByteArray)) ++ (rdOf ByteArray.empty t192 a0_1)) ++ (⟨#[44, 32, 97, 114, 101, 97, 32]⟩ : ByteArray)).size + t196.size ≤ 9223372036854775807 then (if ((((((t187 ++ (⟨#[58, 32]⟩ : ByteArray)) ++ (rdOf ByteArray.empty t188 a0_2)) ++ (⟨#[32]⟩ : ByteArray)) ++ (rdOf ByteArray.empty t192 a0_1)) ++ (⟨#[44, 32, 97, 114, 101, 97, 32]⟩ : ByteArray)) ++ t196).size + 8 ≤ 9223372036854775807 then ((spec_l1Num.f a0_4).bind fun t197 => (if (((((((t187 ++ (⟨#[58, 32]⟩ : ByteArray)) ++ (rdOf ByteArray.empty t188 a0_2)) ++ (⟨#[32]⟩ : ByteArray)) ++ (rdOf ByteArray.empty t192 a0_1)) ++ (⟨#[44, 32, 97, 114, 101, 97, 32]⟩ : ByteArray)) ++ t196) ++ (⟨#[44, 32, 104, 111, 117, 114, 115, 32]⟩ : ByteArray)).size + t197.size ≤ 9223372036854775807 then (if ((((((((t187 ++ (⟨#[58, 32]⟩ : ByteArray)) ++ (rdOf ByteArray.empty t188 a0_2)) ++ (⟨#[32]⟩ : ByteArray)) ++ (rdOf ByteArray.empty t192 a0_1)) ++ (⟨#[44, 32, 97, 114, 101, 97, 32]⟩ : ByteArray)) ++ t196) ++ (⟨#[44, 32, 104, 111, 117, 114, 115, 32]⟩ : ByteArray)) ++ t197).size + 1 ≤ 9223372036854775807 then ((spec_l1Num.f a0_5).bind fun t198 => (if (((((((((t187 ++ (⟨#[58, 32]⟩ : ByteArray)) ++ (rdOf ByteArray.empty t188 a0_2)) ++ (⟨#[32]⟩ : ByteArray)) ++ (rdOf ByteArray.empty t192 a0_1)) ++ (⟨#[44, 32, 97, 114, 101, 97, 32]⟩ : ByteArray)) ++ t196) ++ (⟨#[44, 32, 104, 111, 117, 114, 115, 32]⟩ : ByteArray)) ++ t197) ++ (⟨#[45]⟩ : ByteArray)).size + t198.size ≤ 9223372036854775807 then (some ((((((((((t187 ++ (⟨#[58, 32]⟩ : ByteArray)) ++ (rdOf ByteArray.empty t188 a0_2)) ++ (⟨#[32]⟩ : ByteArray)) ++ (rdOf ByteArray.empty t192 a0_1)) ++ (⟨#[44, 32, 97, 114, 101, 97, 32]⟩ : ByteArray)) ++ t196) ++ (⟨#[44, 32, 104, 111, 117, 114, 115, 32]⟩ : ByteArray)) ++ t197) ++ (⟨#[45]⟩ : ByteArray)) ++ t198)) else (none))) else (none)) else (none))) else (none)) else (none))) else (none)) else (none)) else (none)) else (none))) else (none)) else (none)) else (none)) else (none))) else (none))
def spec_l17Line.T1 : Bool × List (List Nat × List Nat) := (true, [([], []), ([0], [0]), ([1], [1]), ([2], [2]), ([2], []), ([], []), ([5], [5]), ([4, 6], [4, 6]), ([7], [7]), ([3, 8], [3, 8]), ([9], [9]), ([4], []), ([], []), ([12], [12]), ([11, 13], [11, 13]), ([14], [14]), ([10, 15], [10, 15]), ([16], [16]), ([], []), ([18], [18]), ([19, 11], [19]), ([17, 20], [17, 20]), ([21], [21]), ([], []), ([23], [23]), ([24, 20], [24]), ([22, 25], [22, 25]), ([26], [26]), ([], []), ([28], [28]), ([29, 25], [29]), ([27, 30], [27, 30]), ([31, 30, 0, 1, 2, 3, 4, 5, 6, 7, 8, 9, 10, 11, 12, 13, 14, 15, 16, 17, 18, 19, 20, 21, 22, 23, 24, 25, 26, 27, 28, 29, 30, 31], [31])])
def spec_l17Line.B1 : List Nat := [0, 1, 3, 7, 7, 0, 32, 119, 247, 511, 1023, 23, 0, 4096, 14359, 30743, 65535, 131071, 0, 262144, 788503, 2097151, 4194303, 0, 8388608, 27002903, 67108863, 134217727, 0, 268435456, 865863703, 2147483647, 4294967295]
theorem spec_l17Line.tab1 : rtab .any (opsOf Tryz.f45 1) = spec_l17Line.T1 := by kernel_rfl
theorem spec_l17Line.bits1 : waitsOk spec_l17Line.T1.2 spec_l17Line.B1 = true := by kernel_rfl
set_option maxHeartbeats 8000000 in
set_option maxRecDepth 100000 in
theorem spec_l17Line.calls (a0_0 : Int) (a0_1 : Int) (a0_2 : Int) (a0_3 : Int) (a0_4 : Int) (a0_5 : Int) (r : ByteArray) (w : World) (h : spec_l17Line.f a0_0 a0_1 a0_2 a0_3 a0_4 a0_5 = some r) :
  Calls Tryz.prog 45 #[.agg #[.int .i64 a0_0, .int .i64 a0_1, .int .i64 a0_2, .int .i64 a0_3, .int .i64 a0_4, .int .i64 a0_5]] w fun e w' => e = .returned (.string r) ∧ Below w.heap.size w w' := by
 have hu73 := Tryz.underlying73
 have HB := A_ (Below.refl w.heap.size w)
 have H : ((spec_l1Num.f a0_0).bind fun t187 => (if t187.size + 2 ≤ 9223372036854775807 then ((spec_l17Levels.f).bind fun t188 => (if 0 ≤ a0_2 then (if a0_2 < (t188.length : Int) then (if (t187 ++ (⟨#[58, 32]⟩ : ByteArray)).size + (rdOf ByteArray.empty t188 a0_2).size ≤ 9223372036854775807 then (if ((t187 ++ (⟨#[58, 32]⟩ : ByteArray)) ++ (rdOf ByteArray.empty t188 a0_2)).size + 1 ≤ 9223372036854775807 then ((spec_l17Topics.f).bind fun t192 => (if 0 ≤ a0_1 then (if a0_1 < (t192.length : Int) then (if (((t187 ++ (⟨#[58, 32]⟩ : ByteArray)) ++ (rdOf ByteArray.empty t188 a0_2)) ++ (⟨#[32]⟩ : ByteArray)).size + (rdOf ByteArray.empty t192 a0_1).size ≤ 9223372036854775807 then (if ((((t187 ++ (⟨#[58, 32]⟩ : ByteArray)) ++ (rdOf ByteArray.empty t188 a0_2)) ++ (⟨#[32]⟩ : ByteArray)) ++ (rdOf ByteArray.empty t192 a0_1)).size + 7 ≤ 9223372036854775807 then ((spec_l1Num.f a0_3).bind fun t196 => (if (((((t187 ++ (⟨#[58, 32]⟩ : ByteArray)) ++ (rdOf ByteArray.empty t188 a0_2)) ++ (⟨#[32]⟩ : ByteArray)) ++ (rdOf ByteArray.empty t192 a0_1)) ++ (⟨#[44, 32, 97, 114, 101, 97, 32]⟩ : ByteArray)).size + t196.size ≤ 9223372036854775807 then (if ((((((t187 ++ (⟨#[58, 32]⟩ : ByteArray)) ++ (rdOf ByteArray.empty t188 a0_2)) ++ (⟨#[32]⟩ : ByteArray)) ++ (rdOf ByteArray.empty t192 a0_1)) ++ (⟨#[44, 32, 97, 114, 101, 97, 32]⟩ : ByteArray)) ++ t196).size + 8 ≤ 9223372036854775807 then ((spec_l1Num.f a0_4).bind fun t197 => (if (((((((t187 ++ (⟨#[58, 32]⟩ : ByteArray)) ++ (rdOf ByteArray.empty t188 a0_2)) ++ (⟨#[32]⟩ : ByteArray)) ++ (rdOf ByteArray.empty t192 a0_1)) ++ (⟨#[44, 32, 97, 114, 101, 97, 32]⟩ : ByteArray)) ++ t196) ++ (⟨#[44, 32, 104, 111, 117, 114, 115, 32]⟩ : ByteArray)).size + t197.size ≤ 9223372036854775807 then (if ((((((((t187 ++ (⟨#[58, 32]⟩ : ByteArray)) ++ (rdOf ByteArray.empty t188 a0_2)) ++ (⟨#[32]⟩ : ByteArray)) ++ (rdOf ByteArray.empty t192 a0_1)) ++ (⟨#[44, 32, 97, 114, 101, 97, 32]⟩ : ByteArray)) ++ t196) ++ (⟨#[44, 32, 104, 111, 117, 114, 115, 32]⟩ : ByteArray)) ++ t197).size + 1 ≤ 9223372036854775807 then ((spec_l1Num.f a0_5).bind fun t198 => (if (((((((((t187 ++ (⟨#[58, 32]⟩ : ByteArray)) ++ (rdOf ByteArray.empty t188 a0_2)) ++ (⟨#[32]⟩ : ByteArray)) ++ (rdOf ByteArray.empty t192 a0_1)) ++ (⟨#[44, 32, 97, 114, 101, 97, 32]⟩ : ByteArray)) ++ t196) ++ (⟨#[44, 32, 104, 111, 117, 114, 115, 32]⟩ : ByteArray)) ++ t197) ++ (⟨#[45]⟩ : ByteArray)).size + t198.size ≤ 9223372036854775807 then (some ((((((((((t187 ++ (⟨#[58, 32]⟩ : ByteArray)) ++ (rdOf ByteArray.empty t188 a0_2)) ++ (⟨#[32]⟩ : ByteArray)) ++ (rdOf ByteArray.empty t192 a0_1)) ++ (⟨#[44, 32, 97, 114, 101, 97, 32]⟩ : ByteArray)) ++ t196) ++ (⟨#[44, 32, 104, 111, 117, 114, 115, 32]⟩ : ByteArray)) ++ t197) ++ (⟨#[45]⟩ : ByteArray)) ++ t198)) else (none))) else (none)) else (none))) else (none)) else (none))) else (none)) else (none)) else (none)) else (none))) else (none)) else (none)) else (none)) else (none))) else (none))) = some r := h
 clear h
 obtain ⟨t187, A20, H⟩ := oB_ H
 have A2 := A_ A20
 clear A20
 by_cases c3 : t187.size + 2 ≤ 9223372036854775807
 ·
  rw [if_pos c3] at H
  have c3b0 := eq_true c3
  have c3b1 : decide (t187.size + 2 ≤ 9223372036854775807) = true := decide_eq_true c3
  try have c3b2 : (9223372036854775807 < t187.size + 2) = False := eq_false (Nat.not_lt.2 c3)
  obtain ⟨t188, A40, H⟩ := oB_ H
  have A4 := A_ A40
  clear A40
  by_cases c5 : 0 ≤ a0_2
  ·
   rw [if_pos c5] at H
   have c5b0 : decide (0 ≤ a0_2) = true := decide_eq_true c5
   clear c5
   by_cases c6 : a0_2 < (t188.length : Int)
   ·
    rw [if_pos c6] at H
    have c6b0 : decide (a0_2 < (t188.length : Int)) = true := decide_eq_true c6
    clear c6
    by_cases c7 : (t187 ++ (⟨#[58, 32]⟩ : ByteArray)).size + (rdOf ByteArray.empty t188 a0_2).size ≤ 9223372036854775807
    ·
     rw [if_pos c7] at H
     have c7b0 := eq_true c7
     have c7b1 : decide ((t187 ++ (⟨#[58, 32]⟩ : ByteArray)).size + (rdOf ByteArray.empty t188 a0_2).size ≤ 9223372036854775807) = true := decide_eq_true c7
     try have c7b1z : decide ((t187.size + 2) + (rdOf ByteArray.empty t188 a0_2).size ≤ 9223372036854775807) = true := by have h_ := c7b1; (try simp only [ByteArray.size_append] at h_); exact h_
     try have c7b2 : (9223372036854775807 < (t187 ++ (⟨#[58, 32]⟩ : ByteArray)).size + (rdOf ByteArray.empty t188 a0_2).size) = False := eq_false (Nat.not_lt.2 c7)
     try have c7b2z : (9223372036854775807 < (t187.size + 2) + (rdOf ByteArray.empty t188 a0_2).size) = False := by have h_ := c7b2; (try simp only [ByteArray.size_append] at h_); exact h_
     by_cases c8 : ((t187 ++ (⟨#[58, 32]⟩ : ByteArray)) ++ (rdOf ByteArray.empty t188 a0_2)).size + 1 ≤ 9223372036854775807
     ·
      rw [if_pos c8] at H
      have c8b0 := eq_true c8
      have c8b1 : decide (((t187 ++ (⟨#[58, 32]⟩ : ByteArray)) ++ (rdOf ByteArray.empty t188 a0_2)).size + 1 ≤ 9223372036854775807) = true := decide_eq_true c8
      try have c8b1z : decide (((t187.size + 2) + (rdOf ByteArray.empty t188 a0_2).size) + 1 ≤ 9223372036854775807) = true := by have h_ := c8b1; (try simp only [ByteArray.size_append] at h_); exact h_
      try have c8b2 : (9223372036854775807 < ((t187 ++ (⟨#[58, 32]⟩ : ByteArray)) ++ (rdOf ByteArray.empty t188 a0_2)).size + 1) = False := eq_false (Nat.not_lt.2 c8)
      try have c8b2z : (9223372036854775807 < ((t187.size + 2) + (rdOf ByteArray.empty t188 a0_2).size) + 1) = False := by have h_ := c8b2; (try simp only [ByteArray.size_append] at h_); exact h_
      obtain ⟨t192, A90, H⟩ := oB_ H
      have A9 := A_ A90
      clear A90
      by_cases c10 : 0 ≤ a0_1
      ·
       rw [if_pos c10] at H
       have c10b0 : decide (0 ≤ a0_1) = true := decide_eq_true c10
       clear c10
       by_cases c11 : a0_1 < (t192.length : Int)
       ·
        rw [if_pos c11] at H
        have c11b0 : decide (a0_1 < (t192.length : Int)) = true := decide_eq_true c11
        clear c11
        by_cases c12 : (((t187 ++ (⟨#[58, 32]⟩ : ByteArray)) ++ (rdOf ByteArray.empty t188 a0_2)) ++ (⟨#[32]⟩ : ByteArray)).size + (rdOf ByteArray.empty t192 a0_1).size ≤ 9223372036854775807
        ·
         rw [if_pos c12] at H
         have c12b0 := eq_true c12
         have c12b1 : decide ((((t187 ++ (⟨#[58, 32]⟩ : ByteArray)) ++ (rdOf ByteArray.empty t188 a0_2)) ++ (⟨#[32]⟩ : ByteArray)).size + (rdOf ByteArray.empty t192 a0_1).size ≤ 9223372036854775807) = true := decide_eq_true c12
         try have c12b1z : decide ((((t187.size + 2) + (rdOf ByteArray.empty t188 a0_2).size) + 1) + (rdOf ByteArray.empty t192 a0_1).size ≤ 9223372036854775807) = true := by have h_ := c12b1; (try simp only [ByteArray.size_append] at h_); exact h_
         try have c12b2 : (9223372036854775807 < (((t187 ++ (⟨#[58, 32]⟩ : ByteArray)) ++ (rdOf ByteArray.empty t188 a0_2)) ++ (⟨#[32]⟩ : ByteArray)).size + (rdOf ByteArray.empty t192 a0_1).size) = False := eq_false (Nat.not_lt.2 c12)
         try have c12b2z : (9223372036854775807 < (((t187.size + 2) + (rdOf ByteArray.empty t188 a0_2).size) + 1) + (rdOf ByteArray.empty t192 a0_1).size) = False := by have h_ := c12b2; (try simp only [ByteArray.size_append] at h_); exact h_
         by_cases c13 : ((((t187 ++ (⟨#[58, 32]⟩ : ByteArray)) ++ (rdOf ByteArray.empty t188 a0_2)) ++ (⟨#[32]⟩ : ByteArray)) ++ (rdOf ByteArray.empty t192 a0_1)).size + 7 ≤ 9223372036854775807
         ·
          rw [if_pos c13] at H
          have c13b0 := eq_true c13
          have c13b1 : decide (((((t187 ++ (⟨#[58, 32]⟩ : ByteArray)) ++ (rdOf ByteArray.empty t188 a0_2)) ++ (⟨#[32]⟩ : ByteArray)) ++ (rdOf ByteArray.empty t192 a0_1)).size + 7 ≤ 9223372036854775807) = true := decide_eq_true c13
          try have c13b1z : decide (((((t187.size + 2) + (rdOf ByteArray.empty t188 a0_2).size) + 1) + (rdOf ByteArray.empty t192 a0_1).size) + 7 ≤ 9223372036854775807) = true := by have h_ := c13b1; (try simp only [ByteArray.size_append] at h_); exact h_
          try have c13b2 : (9223372036854775807 < ((((t187 ++ (⟨#[58, 32]⟩ : ByteArray)) ++ (rdOf ByteArray.empty t188 a0_2)) ++ (⟨#[32]⟩ : ByteArray)) ++ (rdOf ByteArray.empty t192 a0_1)).size + 7) = False := eq_false (Nat.not_lt.2 c13)
          try have c13b2z : (9223372036854775807 < ((((t187.size + 2) + (rdOf ByteArray.empty t188 a0_2).size) + 1) + (rdOf ByteArray.empty t192 a0_1).size) + 7) = False := by have h_ := c13b2; (try simp only [ByteArray.size_append] at h_); exact h_
          obtain ⟨t196, A140, H⟩ := oB_ H
          have A14 := A_ A140
          clear A140
          by_cases c15 : (((((t187 ++ (⟨#[58, 32]⟩ : ByteArray)) ++ (rdOf ByteArray.empty t188 a0_2)) ++ (⟨#[32]⟩ : ByteArray)) ++ (rdOf ByteArray.empty t192 a0_1)) ++ (⟨#[44, 32, 97, 114, 101, 97, 32]⟩ : ByteArray)).size + t196.size ≤ 9223372036854775807
          ·
           rw [if_pos c15] at H
           have c15b0 := eq_true c15
           have c15b1 : decide ((((((t187 ++ (⟨#[58, 32]⟩ : ByteArray)) ++ (rdOf ByteArray.empty t188 a0_2)) ++ (⟨#[32]⟩ : ByteArray)) ++ (rdOf ByteArray.empty t192 a0_1)) ++ (⟨#[44, 32, 97, 114, 101, 97, 32]⟩ : ByteArray)).size + t196.size ≤ 9223372036854775807) = true := decide_eq_true c15
           try have c15b1z : decide ((((((t187.size + 2) + (rdOf ByteArray.empty t188 a0_2).size) + 1) + (rdOf ByteArray.empty t192 a0_1).size) + 7) + t196.size ≤ 9223372036854775807) = true := by have h_ := c15b1; (try simp only [ByteArray.size_append] at h_); exact h_
           try have c15b2 : (9223372036854775807 < (((((t187 ++ (⟨#[58, 32]⟩ : ByteArray)) ++ (rdOf ByteArray.empty t188 a0_2)) ++ (⟨#[32]⟩ : ByteArray)) ++ (rdOf ByteArray.empty t192 a0_1)) ++ (⟨#[44, 32, 97, 114, 101, 97, 32]⟩ : ByteArray)).size + t196.size) = False := eq_false (Nat.not_lt.2 c15)
           try have c15b2z : (9223372036854775807 < (((((t187.size + 2) + (rdOf ByteArray.empty t188 a0_2).size) + 1) + (rdOf ByteArray.empty t192 a0_1).size) + 7) + t196.size) = False := by have h_ := c15b2; (try simp only [ByteArray.size_append] at h_); exact h_
           by_cases c16 : ((((((t187 ++ (⟨#[58, 32]⟩ : ByteArray)) ++ (rdOf ByteArray.empty t188 a0_2)) ++ (⟨#[32]⟩ : ByteArray)) ++ (rdOf ByteArray.empty t192 a0_1)) ++ (⟨#[44, 32, 97, 114, 101, 97, 32]⟩ : ByteArray)) ++ t196).size + 8 ≤ 9223372036854775807
           ·
            rw [if_pos c16] at H
            have c16b0 := eq_true c16
            have c16b1 : decide (((((((t187 ++ (⟨#[58, 32]⟩ : ByteArray)) ++ (rdOf ByteArray.empty t188 a0_2)) ++ (⟨#[32]⟩ : ByteArray)) ++ (rdOf ByteArray.empty t192 a0_1)) ++ (⟨#[44, 32, 97, 114, 101, 97, 32]⟩ : ByteArray)) ++ t196).size + 8 ≤ 9223372036854775807) = true := decide_eq_true c16
            try have c16b1z : decide (((((((t187.size + 2) + (rdOf ByteArray.empty t188 a0_2).size) + 1) + (rdOf ByteArray.empty t192 a0_1).size) + 7) + t196.size) + 8 ≤ 9223372036854775807) = true := by have h_ := c16b1; (try simp only [ByteArray.size_append] at h_); exact h_
            try have c16b2 : (9223372036854775807 < ((((((t187 ++ (⟨#[58, 32]⟩ : ByteArray)) ++ (rdOf ByteArray.empty t188 a0_2)) ++ (⟨#[32]⟩ : ByteArray)) ++ (rdOf ByteArray.empty t192 a0_1)) ++ (⟨#[44, 32, 97, 114, 101, 97, 32]⟩ : ByteArray)) ++ t196).size + 8) = False := eq_false (Nat.not_lt.2 c16)
            try have c16b2z : (9223372036854775807 < ((((((t187.size + 2) + (rdOf ByteArray.empty t188 a0_2).size) + 1) + (rdOf ByteArray.empty t192 a0_1).size) + 7) + t196.size) + 8) = False := by have h_ := c16b2; (try simp only [ByteArray.size_append] at h_); exact h_
            obtain ⟨t197, A170, H⟩ := oB_ H
            have A17 := A_ A170
            clear A170
            by_cases c18 : (((((((t187 ++ (⟨#[58, 32]⟩ : ByteArray)) ++ (rdOf ByteArray.empty t188 a0_2)) ++ (⟨#[32]⟩ : ByteArray)) ++ (rdOf ByteArray.empty t192 a0_1)) ++ (⟨#[44, 32, 97, 114, 101, 97, 32]⟩ : ByteArray)) ++ t196) ++ (⟨#[44, 32, 104, 111, 117, 114, 115, 32]⟩ : ByteArray)).size + t197.size ≤ 9223372036854775807
            ·
             rw [if_pos c18] at H
             have c18b0 := eq_true c18
             have c18b1 : decide ((((((((t187 ++ (⟨#[58, 32]⟩ : ByteArray)) ++ (rdOf ByteArray.empty t188 a0_2)) ++ (⟨#[32]⟩ : ByteArray)) ++ (rdOf ByteArray.empty t192 a0_1)) ++ (⟨#[44, 32, 97, 114, 101, 97, 32]⟩ : ByteArray)) ++ t196) ++ (⟨#[44, 32, 104, 111, 117, 114, 115, 32]⟩ : ByteArray)).size + t197.size ≤ 9223372036854775807) = true := decide_eq_true c18
             try have c18b1z : decide ((((((((t187.size + 2) + (rdOf ByteArray.empty t188 a0_2).size) + 1) + (rdOf ByteArray.empty t192 a0_1).size) + 7) + t196.size) + 8) + t197.size ≤ 9223372036854775807) = true := by have h_ := c18b1; (try simp only [ByteArray.size_append] at h_); exact h_
             try have c18b2 : (9223372036854775807 < (((((((t187 ++ (⟨#[58, 32]⟩ : ByteArray)) ++ (rdOf ByteArray.empty t188 a0_2)) ++ (⟨#[32]⟩ : ByteArray)) ++ (rdOf ByteArray.empty t192 a0_1)) ++ (⟨#[44, 32, 97, 114, 101, 97, 32]⟩ : ByteArray)) ++ t196) ++ (⟨#[44, 32, 104, 111, 117, 114, 115, 32]⟩ : ByteArray)).size + t197.size) = False := eq_false (Nat.not_lt.2 c18)
             try have c18b2z : (9223372036854775807 < (((((((t187.size + 2) + (rdOf ByteArray.empty t188 a0_2).size) + 1) + (rdOf ByteArray.empty t192 a0_1).size) + 7) + t196.size) + 8) + t197.size) = False := by have h_ := c18b2; (try simp only [ByteArray.size_append] at h_); exact h_
             by_cases c19 : ((((((((t187 ++ (⟨#[58, 32]⟩ : ByteArray)) ++ (rdOf ByteArray.empty t188 a0_2)) ++ (⟨#[32]⟩ : ByteArray)) ++ (rdOf ByteArray.empty t192 a0_1)) ++ (⟨#[44, 32, 97, 114, 101, 97, 32]⟩ : ByteArray)) ++ t196) ++ (⟨#[44, 32, 104, 111, 117, 114, 115, 32]⟩ : ByteArray)) ++ t197).size + 1 ≤ 9223372036854775807
             ·
              rw [if_pos c19] at H
              have c19b0 := eq_true c19
              have c19b1 : decide (((((((((t187 ++ (⟨#[58, 32]⟩ : ByteArray)) ++ (rdOf ByteArray.empty t188 a0_2)) ++ (⟨#[32]⟩ : ByteArray)) ++ (rdOf ByteArray.empty t192 a0_1)) ++ (⟨#[44, 32, 97, 114, 101, 97, 32]⟩ : ByteArray)) ++ t196) ++ (⟨#[44, 32, 104, 111, 117, 114, 115, 32]⟩ : ByteArray)) ++ t197).size + 1 ≤ 9223372036854775807) = true := decide_eq_true c19
              try have c19b1z : decide (((((((((t187.size + 2) + (rdOf ByteArray.empty t188 a0_2).size) + 1) + (rdOf ByteArray.empty t192 a0_1).size) + 7) + t196.size) + 8) + t197.size) + 1 ≤ 9223372036854775807) = true := by have h_ := c19b1; (try simp only [ByteArray.size_append] at h_); exact h_
              try have c19b2 : (9223372036854775807 < ((((((((t187 ++ (⟨#[58, 32]⟩ : ByteArray)) ++ (rdOf ByteArray.empty t188 a0_2)) ++ (⟨#[32]⟩ : ByteArray)) ++ (rdOf ByteArray.empty t192 a0_1)) ++ (⟨#[44, 32, 97, 114, 101, 97, 32]⟩ : ByteArray)) ++ t196) ++ (⟨#[44, 32, 104, 111, 117, 114, 115, 32]⟩ : ByteArray)) ++ t197).size + 1) = False := eq_false (Nat.not_lt.2 c19)
              try have c19b2z : (9223372036854775807 < ((((((((t187.size + 2) + (rdOf ByteArray.empty t188 a0_2).size) + 1) + (rdOf ByteArray.empty t192 a0_1).size) + 7) + t196.size) + 8) + t197.size) + 1) = False := by have h_ := c19b2; (try simp only [ByteArray.size_append] at h_); exact h_
              obtain ⟨t198, A200, H⟩ := oB_ H
              have A20 := A_ A200
              clear A200
              by_cases c21 : (((((((((t187 ++ (⟨#[58, 32]⟩ : ByteArray)) ++ (rdOf ByteArray.empty t188 a0_2)) ++ (⟨#[32]⟩ : ByteArray)) ++ (rdOf ByteArray.empty t192 a0_1)) ++ (⟨#[44, 32, 97, 114, 101, 97, 32]⟩ : ByteArray)) ++ t196) ++ (⟨#[44, 32, 104, 111, 117, 114, 115, 32]⟩ : ByteArray)) ++ t197) ++ (⟨#[45]⟩ : ByteArray)).size + t198.size ≤ 9223372036854775807
              ·
               rw [if_pos c21] at H
               have c21b0 := eq_true c21
               have c21b1 : decide ((((((((((t187 ++ (⟨#[58, 32]⟩ : ByteArray)) ++ (rdOf ByteArray.empty t188 a0_2)) ++ (⟨#[32]⟩ : ByteArray)) ++ (rdOf ByteArray.empty t192 a0_1)) ++ (⟨#[44, 32, 97, 114, 101, 97, 32]⟩ : ByteArray)) ++ t196) ++ (⟨#[44, 32, 104, 111, 117, 114, 115, 32]⟩ : ByteArray)) ++ t197) ++ (⟨#[45]⟩ : ByteArray)).size + t198.size ≤ 9223372036854775807) = true := decide_eq_true c21
               try have c21b1z : decide ((((((((((t187.size + 2) + (rdOf ByteArray.empty t188 a0_2).size) + 1) + (rdOf ByteArray.empty t192 a0_1).size) + 7) + t196.size) + 8) + t197.size) + 1) + t198.size ≤ 9223372036854775807) = true := by have h_ := c21b1; (try simp only [ByteArray.size_append] at h_); exact h_
               try have c21b2 : (9223372036854775807 < (((((((((t187 ++ (⟨#[58, 32]⟩ : ByteArray)) ++ (rdOf ByteArray.empty t188 a0_2)) ++ (⟨#[32]⟩ : ByteArray)) ++ (rdOf ByteArray.empty t192 a0_1)) ++ (⟨#[44, 32, 97, 114, 101, 97, 32]⟩ : ByteArray)) ++ t196) ++ (⟨#[44, 32, 104, 111, 117, 114, 115, 32]⟩ : ByteArray)) ++ t197) ++ (⟨#[45]⟩ : ByteArray)).size + t198.size) = False := eq_false (Nat.not_lt.2 c21)
               try have c21b2z : (9223372036854775807 < (((((((((t187.size + 2) + (rdOf ByteArray.empty t188 a0_2).size) + 1) + (rdOf ByteArray.empty t192 a0_1).size) + 7) + t196.size) + 8) + t197.size) + 1) + t198.size) = False := by have h_ := c21b2; (try simp only [ByteArray.size_append] at h_); exact h_
               obtain rfl := Option.some.inj H
               go_enter Tryz.func45, Tryz.ntmps45
               try go_wp2_with (first | ((with_reducible refine gd_ 1 rfl ?_); refine box_event rfl (N := 1) rfl (cs := #[.int .i64 a0_0, .int .i64 a0_1, .int .i64 a0_2, .int .i64 a0_3, .int .i64 a0_4, .int .i64 a0_5]) (t := 73) mc142 ?_; intro gb186 hg w22 hbox hb; have BK186 := A_ (hbox); have GW186 := A_ ((mc45 : w.heap.size ≤ gb186)); have GE186 := A_ ((mc45 : w.heap.size ≤ gb186)); replace HB := A_ (below_step mc89 hb); clear hb hbox hg))
               have pi191 : (0 ≤ (a0_2 : Int)) = True := eq_true (of_decide_eq_true mc139)
               have qi191 : (a0_2 < (t188.length : Int)) = True := eq_true (of_decide_eq_true mc139)
               have pi195 : (0 ≤ (a0_1 : Int)) = True := eq_true (of_decide_eq_true mc139)
               have qi195 : (a0_1 < (t192.length : Int)) = True := eq_true (of_decide_eq_true mc139)
               replace BK186 := A_ (blk_drew BK186.out)
               replace HB := A_ (below_drew1 HB.out)
               refine start_ (n := 33) (S := fun w' => True) (ds := []) #[false, false, false, false, false, false, false, false, false, false, false, false, false, false, false, false, false, false, false, false, false, false, false, false, false, false, false, false, false, false, false, false, false] kr_ rfl rfl trivial (fun hHeld => ?_); refine with_tabW spec_l17Line.tab1 spec_l17Line.bits1 (fun HT_ HW_ => ?_)
               generalize w22.drew = w23 at BK186 HB hHeld ⊢
               refine pure_ (i := 0) (N := some 3) #[true, false, false, false, false, false, false, false, false, false, false, false, false, false, false, false, false, false, false, false, false, false, false, false, false, false, false, false, false, false, false, false, false] rfl rfl (any_of HT_.out kr_) (fun _ _ _ h => h) (Or.inl ⟨by rfl, mc143⟩) mc122 ?_
               refine pure_ (i := 5) (N := some 8) #[true, false, false, false, false, true, false, false, false, false, false, false, false, false, false, false, false, false, false, false, false, false, false, false, false, false, false, false, false, false, false, false, false] rfl rfl (any_of HT_.out kr_) (fun _ _ _ h => h) (Or.inl ⟨by rfl, mc143⟩) mc122 ?_
               refine pure_ (i := 12) (N := some 15) #[true, false, false, false, false, true, false, false, false, false, false, false, true, false, false, false, false, false, false, false, false, false, false, false, false, false, false, false, false, false, false, false, false] rfl rfl (any_of HT_.out kr_) (fun _ _ _ h => h) (Or.inl ⟨by rfl, mc143⟩) mc122 ?_
               refine pure_ (i := 18) (N := some 21) #[true, false, false, false, false, true, false, false, false, false, false, false, true, false, false, false, false, false, true, false, false, false, false, false, false, false, false, false, false, false, false, false, false] rfl rfl (any_of HT_.out kr_) (fun _ _ _ h => h) (Or.inl ⟨by rfl, mc143⟩) mc122 ?_
               refine pure_ (i := 23) (N := some 26) #[true, false, false, false, false, true, false, false, false, false, false, false, true, false, false, false, false, false, true, false, false, false, false, true, false, false, false, false, false, false, false, false, false] rfl rfl (any_of HT_.out kr_) (fun _ _ _ h => h) (Or.inl ⟨by rfl, mc143⟩) mc122 ?_
               refine pure_ (i := 28) (N := some 31) #[true, false, false, false, false, true, false, false, false, false, false, false, true, false, false, false, false, false, true, false, false, false, false, true, false, false, false, false, true, false, false, false, false] rfl rfl (any_of HT_.out kr_) (fun _ _ _ h => h) (Or.inl ⟨by rfl, mc143⟩) mc122 ?_
               refine inv_at [1, 2, 3, 4, 6, 7, 8, 9, 10, 11, 13, 14, 15, 16, 17, 19, 20, 21, 22, 24, 25, 26, 27, 29, 30, 31, 32] (fun a0_ b a w' => ∃ (v189 : Value) (adz_v189 : Addr) (v193 : Value) (adz_v193 : Addr) (m7_ : Value) (m14_ : Value), a = putSel a0_ b [(1, 4, .int .i64 a0_0), (2, 5, .string t187), (3, 6, .string (t187 ++ (⟨#[58, 32]⟩ : ByteArray))), (4, 7, v189), (6, 9, .int .i64 a0_2), (7, 10, m7_), (8, 11, .string (rdOf ByteArray.empty t188 a0_2)), (9, 12, .string ((t187 ++ (⟨#[58, 32]⟩ : ByteArray)) ++ (rdOf ByteArray.empty t188 a0_2))), (10, 13, .string (((t187 ++ (⟨#[58, 32]⟩ : ByteArray)) ++ (rdOf ByteArray.empty t188 a0_2)) ++ (⟨#[32]⟩ : ByteArray))), (11, 14, v193), (13, 16, .int .i64 a0_1), (14, 17, m14_), (15, 18, .string (rdOf ByteArray.empty t192 a0_1)), (16, 19, .string ((((t187 ++ (⟨#[58, 32]⟩ : ByteArray)) ++ (rdOf ByteArray.empty t188 a0_2)) ++ (⟨#[32]⟩ : ByteArray)) ++ (rdOf ByteArray.empty t192 a0_1))), (17, 20, .string (((((t187 ++ (⟨#[58, 32]⟩ : ByteArray)) ++ (rdOf ByteArray.empty t188 a0_2)) ++ (⟨#[32]⟩ : ByteArray)) ++ (rdOf ByteArray.empty t192 a0_1)) ++ (⟨#[44, 32, 97, 114, 101, 97, 32]⟩ : ByteArray))), (19, 22, .int .i64 a0_3), (20, 23, .string t196), (21, 24, .string ((((((t187 ++ (⟨#[58, 32]⟩ : ByteArray)) ++ (rdOf ByteArray.empty t188 a0_2)) ++ (⟨#[32]⟩ : ByteArray)) ++ (rdOf ByteArray.empty t192 a0_1)) ++ (⟨#[44, 32, 97, 114, 101, 97, 32]⟩ : ByteArray)) ++ t196)), (22, 25, .string (((((((t187 ++ (⟨#[58, 32]⟩ : ByteArray)) ++ (rdOf ByteArray.empty t188 a0_2)) ++ (⟨#[32]⟩ : ByteArray)) ++ (rdOf ByteArray.empty t192 a0_1)) ++ (⟨#[44, 32, 97, 114, 101, 97, 32]⟩ : ByteArray)) ++ t196) ++ (⟨#[44, 32, 104, 111, 117, 114, 115, 32]⟩ : ByteArray))), (24, 27, .int .i64 a0_4), (25, 28, .string t197), (26, 29, .string ((((((((t187 ++ (⟨#[58, 32]⟩ : ByteArray)) ++ (rdOf ByteArray.empty t188 a0_2)) ++ (⟨#[32]⟩ : ByteArray)) ++ (rdOf ByteArray.empty t192 a0_1)) ++ (⟨#[44, 32, 97, 114, 101, 97, 32]⟩ : ByteArray)) ++ t196) ++ (⟨#[44, 32, 104, 111, 117, 114, 115, 32]⟩ : ByteArray)) ++ t197)), (27, 30, .string (((((((((t187 ++ (⟨#[58, 32]⟩ : ByteArray)) ++ (rdOf ByteArray.empty t188 a0_2)) ++ (⟨#[32]⟩ : ByteArray)) ++ (rdOf ByteArray.empty t192 a0_1)) ++ (⟨#[44, 32, 97, 114, 101, 97, 32]⟩ : ByteArray)) ++ t196) ++ (⟨#[44, 32, 104, 111, 117, 114, 115, 32]⟩ : ByteArray)) ++ t197) ++ (⟨#[45]⟩ : ByteArray))), (29, 32, .int .i64 a0_5), (30, 33, .string t198), (31, 34, .string ((((((((((t187 ++ (⟨#[58, 32]⟩ : ByteArray)) ++ (rdOf ByteArray.empty t188 a0_2)) ++ (⟨#[32]⟩ : ByteArray)) ++ (rdOf ByteArray.empty t192 a0_1)) ++ (⟨#[44, 32, 97, 114, 101, 97, 32]⟩ : ByteArray)) ++ t196) ++ (⟨#[44, 32, 104, 111, 117, 114, 115, 32]⟩ : ByteArray)) ++ t197) ++ (⟨#[45]⟩ : ByteArray)) ++ t198)), (32, 2, .string ((((((((((t187 ++ (⟨#[58, 32]⟩ : ByteArray)) ++ (rdOf ByteArray.empty t188 a0_2)) ++ (⟨#[32]⟩ : ByteArray)) ++ (rdOf ByteArray.empty t192 a0_1)) ++ (⟨#[44, 32, 97, 114, 101, 97, 32]⟩ : ByteArray)) ++ t196) ++ (⟨#[44, 32, 104, 111, 117, 114, 115, 32]⟩ : ByteArray)) ++ t197) ++ (⟨#[45]⟩ : ByteArray)) ++ t198))] ∧ (w'.heap[gb186]? = some (.cells #[.int .i64 a0_0, .int .i64 a0_1, .int .i64 a0_2, .int .i64 a0_3, .int .i64 a0_4, .int .i64 a0_5] 73 (0, 0))) ∧ (Below w.heap.size w w') ∧ (b 4 = true → Kd.R Kd.string 9 w' w.heap.size (fun _ => True) v189 t188) ∧ (b 4 = true → ∃ c_, (v189 : Value) = .slice (some adz_v189) t188.length c_) ∧ (b 11 = true → Kd.R Kd.string 9 w' w.heap.size (fun _ => True) v193 t192) ∧ (b 11 = true → ∃ c_, (v193 : Value) = .slice (some adz_v193) t192.length c_) ∧ (b 7 = true → (m7_ : Value) = .pointer (some (adz_v189.add (a0_2).toNat))) ∧ (b 14 = true → (m14_ : Value) = .pointer (some (adz_v193.add (a0_1).toNat)))) HT_.out HW_.out kr_ kr_ ?_ ?_ ?_
               ·
                exact ⟨.bool false, ⟨0, 0, none⟩, .bool false, ⟨0, 0, none⟩, .bool false, .bool false, by simp only [putSel, Bool.false_eq_true, if_false], BK186.out, HB.out, fun h_ => absurd h_ (by decide), fun h_ => absurd h_ (by decide), fun h_ => absurd h_ (by decide), fun h_ => absurd h_ (by decide), fun h_ => absurd h_ (by decide), fun h_ => absurd h_ (by decide)⟩
               ·
                skip
                clear BK186 HB
                refine steps_cons ?_ ?_
                ·
                 rintro b a w' ⟨v189, adz_v189, v193, adz_v193, m7_, m14_, ha, Q_BK186, Q_HB, Q_HO190, Q_HA_HO190, Q_HO194, Q_HA_HO194, Q_X7_, Q_X14_⟩ hb_ hon hoff
                 refine ⟨_, rfl, fun K hK => ?_⟩
                 have e3 : a.tmps[3]? = some (.pointer (some ⟨gb186, 0, none⟩)) := by rw [ha]; exact (putSel_off rfl).trans rfl
                 replace ha := A_ ha
                 have BK186 := A_ Q_BK186
                 have HB := A_ Q_HB
                 have hc0_ : w'.cell? ⟨gb186, 0, none⟩ = some (.int .i64 a0_0) := bc_ BK186 0 rfl
                 have hc1_ : w'.cell? ⟨gb186, 1, none⟩ = some (.int .i64 a0_1) := bc_ BK186 1 rfl
                 have hc2_ : w'.cell? ⟨gb186, 2, none⟩ = some (.int .i64 a0_2) := bc_ BK186 2 rfl
                 have hc3_ : w'.cell? ⟨gb186, 3, none⟩ = some (.int .i64 a0_3) := bc_ BK186 3 rfl
                 have hc4_ : w'.cell? ⟨gb186, 4, none⟩ = some (.int .i64 a0_4) := bc_ BK186 4 rfl
                 have hc5_ : w'.cell? ⟨gb186, 5, none⟩ = some (.int .i64 a0_5) := bc_ BK186 5 rfl
                 refine value_ (w1 := w') (v := .int .i64 a0_0) (by rfl) rfl ?_ ?_
                 ·
                  go_simp
                  (try simp only [i64_w])
                  try rfl
                 refine hK.out _ _ ⟨v189, adz_v189, v193, adz_v193, m7_, m14_, (by rw [ha.out]; exact putSel_upk 0 hb_ rfl rfl rfl), Q_BK186, Q_HB, fun h0_ => absurd ((hoff 4 kr_).symm.trans h0_) (by decide), fun h0_ => absurd ((hoff 4 kr_).symm.trans h0_) (by decide), fun h0_ => absurd ((hoff 11 kr_).symm.trans h0_) (by decide), fun h0_ => absurd ((hoff 11 kr_).symm.trans h0_) (by decide), fun h0_ => absurd ((hoff 7 kr_).symm.trans h0_) (by decide), fun h0_ => absurd ((hoff 14 kr_).symm.trans h0_) (by decide)⟩
                refine steps_cons ?_ ?_
                ·
                 rintro b a w' ⟨v189, adz_v189, v193, adz_v193, m7_, m14_, ha, Q_BK186, Q_HB, Q_HO190, Q_HA_HO190, Q_HO194, Q_HA_HO194, Q_X7_, Q_X14_⟩ hb_ hon hoff
                 refine ⟨_, rfl, fun K hK => ?_⟩
                 have e4 : a.tmps[4]? = some (.int .i64 a0_0) := by rw [ha]; exact putSel_on (e := (1, 4, .int .i64 a0_0)) 0 rfl rfl (hon 1 kr_) rfl
                 replace ha := A_ ha
                 have BK186 := A_ Q_BK186
                 have HB := A_ Q_HB
                 refine goes_ Tryz.func46 kr_ rfl #[.int .i64 a0_0] (by rfl) rfl rfl mc13 ?_
                 with_reducible refine (spec_l17Line_Mspec_l1Num.calls a0_0 t187 _ A2.out).mono ?_
                 rintro e w24 ⟨rfl, hb⟩
                 refine ⟨_, rfl, ?_⟩
                 replace BK186 := A_ (blk_below mc97 hb)
                 replace HB := A_ (below_step mc52 hb)
                 (try clear hb)
                 refine hK.out _ _ ⟨v189, adz_v189, v193, adz_v193, m7_, m14_, (by rw [ha.out]; exact putSel_upk 1 hb_ rfl rfl rfl), mc97, mc52, fun h0_ => absurd ((hoff 4 kr_).symm.trans h0_) (by decide), fun h0_ => absurd ((hoff 4 kr_).symm.trans h0_) (by decide), fun h0_ => absurd ((hoff 11 kr_).symm.trans h0_) (by decide), fun h0_ => absurd ((hoff 11 kr_).symm.trans h0_) (by decide), fun h0_ => absurd ((hoff 7 kr_).symm.trans h0_) (by decide), fun h0_ => absurd ((hoff 14 kr_).symm.trans h0_) (by decide)⟩
                refine steps_cons ?_ ?_
                ·
                 rintro b a w' ⟨v189, adz_v189, v193, adz_v193, m7_, m14_, ha, Q_BK186, Q_HB, Q_HO190, Q_HA_HO190, Q_HO194, Q_HA_HO194, Q_X7_, Q_X14_⟩ hb_ hon hoff
                 refine ⟨_, rfl, fun K hK => ?_⟩
                 have e5 : a.tmps[5]? = some (.string t187) := by rw [ha]; exact putSel_on (e := (2, 5, .string t187)) 1 rfl rfl (hon 2 kr_) rfl
                 replace ha := A_ ha
                 have BK186 := A_ Q_BK186
                 have HB := A_ Q_HB
                 refine value_ (w1 := w') (v := .string (t187 ++ (⟨#[58, 32]⟩ : ByteArray))) (by rfl) rfl ?_ ?_
                 ·
                  go_simp
                  (try simp only [i64_w])
                  try rfl
                 refine hK.out _ _ ⟨v189, adz_v189, v193, adz_v193, m7_, m14_, (by rw [ha.out]; exact putSel_upk 2 hb_ rfl rfl rfl), Q_BK186, Q_HB, Q_HO190, Q_HA_HO190, Q_HO194, Q_HA_HO194, Q_X7_, Q_X14_⟩
                refine steps_cons ?_ ?_
                ·
                 rintro b a w' ⟨v189, adz_v189, v193, adz_v193, m7_, m14_, ha, Q_BK186, Q_HB, Q_HO190, Q_HA_HO190, Q_HO194, Q_HA_HO194, Q_X7_, Q_X14_⟩ hb_ hon hoff
                 refine ⟨_, rfl, fun K hK => ?_⟩
                 replace ha := A_ ha
                 have BK186 := A_ Q_BK186
                 have HB := A_ Q_HB
                 refine goes_ Tryz.func80 kr_ rfl #[] (by rfl) rfl rfl mc14 ?_
                 with_reducible refine (spec_l17Levels.calls  t188 _ A4.out).mono ?_
                 rintro e w26 ⟨v189, rfl, ho0, hb⟩
                 refine ⟨_, rfl, ?_⟩
                 have HO190 := A_ (Kd.R_lower ho0 (below_size mc52))
                 replace BK186 := A_ (blk_below mc97 hb)
                 replace HB := A_ (below_step mc52 hb)
                 (try clear hb)
                 (try clear ho0)
                 obtain ⟨Ao27, co27, eo27⟩ := Kd.R_slice HO190.out
                 subst eo27
                 obtain ⟨ado27, fo27, _⟩ := Kd.at_string (Kd.R_reads' HO190.out).2.2 0 (by decide) (by simp only [decide_eq_true_eq] at *; omega)
                 cases fo27
                 refine hK.out _ _ ⟨.slice (some ado27) t188.length co27, ado27, v193, adz_v193, m7_, m14_, (by rw [ha.out]; exact putSel_upk 3 hb_ rfl rfl rfl), mc97, mc52, fun _ => mc126, fun _ => ⟨_, rfl⟩, fun h0_ => absurd ((hoff 11 kr_).symm.trans h0_) (by decide), fun h0_ => absurd ((hoff 11 kr_).symm.trans h0_) (by decide), fun h0_ => absurd ((hoff 7 kr_).symm.trans h0_) (by decide), fun h0_ => absurd ((hoff 14 kr_).symm.trans h0_) (by decide)⟩
                refine steps_cons ?_ ?_
                ·
                 rintro b a w' ⟨v189, adz_v189, v193, adz_v193, m7_, m14_, ha, Q_BK186, Q_HB, Q_HO190, Q_HA_HO190, Q_HO194, Q_HA_HO194, Q_X7_, Q_X14_⟩ hb_ hon hoff
                 refine ⟨_, rfl, fun K hK => ?_⟩
                 have e8 : a.tmps[8]? = some (.pointer (some ⟨gb186, 2, none⟩)) := by rw [ha]; exact (putSel_off rfl).trans rfl
                 replace ha := A_ ha
                 have BK186 := A_ Q_BK186
                 have HB := A_ Q_HB
                 have hc0_ : w'.cell? ⟨gb186, 0, none⟩ = some (.int .i64 a0_0) := bc_ BK186 0 rfl
                 have hc1_ : w'.cell? ⟨gb186, 1, none⟩ = some (.int .i64 a0_1) := bc_ BK186 1 rfl
                 have hc2_ : w'.cell? ⟨gb186, 2, none⟩ = some (.int .i64 a0_2) := bc_ BK186 2 rfl
                 have hc3_ : w'.cell? ⟨gb186, 3, none⟩ = some (.int .i64 a0_3) := bc_ BK186 3 rfl
                 have hc4_ : w'.cell? ⟨gb186, 4, none⟩ = some (.int .i64 a0_4) := bc_ BK186 4 rfl
                 have hc5_ : w'.cell? ⟨gb186, 5, none⟩ = some (.int .i64 a0_5) := bc_ BK186 5 rfl
                 refine value_ (w1 := w') (v := .int .i64 a0_2) (by rfl) rfl ?_ ?_
                 ·
                  go_simp
                  (try simp only [i64_w])
                  try rfl
                 refine hK.out _ _ ⟨v189, adz_v189, v193, adz_v193, m7_, m14_, (by rw [ha.out]; exact putSel_upk 4 hb_ rfl rfl rfl), Q_BK186, Q_HB, Q_HO190, Q_HA_HO190, Q_HO194, Q_HA_HO194, fun h0_ => absurd ((hoff 7 kr_).symm.trans h0_) (by decide), Q_X14_⟩
                refine steps_cons ?_ ?_
                ·
                 rintro b a w' ⟨v189, adz_v189, v193, adz_v193, m7_, m14_, ha, Q_BK186, Q_HB, Q_HO190, Q_HA_HO190, Q_HO194, Q_HA_HO194, Q_X7_, Q_X14_⟩ hb_ hon hoff
                 refine ⟨_, rfl, fun K hK => ?_⟩
                 have e7 : a.tmps[7]? = some (v189) := by rw [ha]; exact putSel_on (e := (4, 7, v189)) 3 rfl rfl (hon 4 kr_) rfl
                 have e9 : a.tmps[9]? = some (.int .i64 a0_2) := by rw [ha]; exact putSel_on (e := (6, 9, .int .i64 a0_2)) 4 rfl rfl (hon 6 kr_) rfl
                 replace ha := A_ ha
                 have BK186 := A_ Q_BK186
                 have HB := A_ Q_HB
                 have HO190 := A_ (Q_HO190 (hon 4 kr_))
                 have HA_HO190 := A_ (Q_HA_HO190 (hon 4 kr_))
                 obtain ⟨c_, hv_⟩ := HA_HO190.out
                 rw [hv_] at e7
                 refine value_ (w1 := w') (v := .pointer (some (adz_v189.add (a0_2).toNat))) (by rfl) rfl ?_ ?_
                 ·
                  go_simp
                  (try simp only [i64_w])
                  try rfl
                 refine hK.out _ _ ⟨v189, adz_v189, v193, adz_v193, (.pointer (some (adz_v189.add (a0_2).toNat))), m14_, (by rw [ha.out]; exact putSel_upk 5 hb_ rfl rfl rfl), Q_BK186, Q_HB, Q_HO190, Q_HA_HO190, Q_HO194, Q_HA_HO194, fun _ => rfl, Q_X14_⟩
                refine steps_cons ?_ ?_
                ·
                 rintro b a w' ⟨v189, adz_v189, v193, adz_v193, m7_, m14_, ha, Q_BK186, Q_HB, Q_HO190, Q_HA_HO190, Q_HO194, Q_HA_HO194, Q_X7_, Q_X14_⟩ hb_ hon hoff
                 refine ⟨_, rfl, fun K hK => ?_⟩
                 have e10 : a.tmps[10]? = some (m7_) := by rw [ha]; exact putSel_on (e := (7, 10, m7_)) 5 rfl rfl (hon 7 kr_) rfl
                 rw [Q_X7_ (hon 7 kr_)] at e10
                 replace ha := A_ ha
                 have BK186 := A_ Q_BK186
                 have HB := A_ Q_HB
                 have HO190 := A_ (Q_HO190 (hon 4 kr_))
                 have HA_HO190 := A_ (Q_HA_HO190 (hon 4 kr_))
                 obtain ⟨c_, hv_⟩ := HA_HO190.out
                 have hF_ := HO190.out
                 rw [hv_] at hF_
                 obtain ⟨ad_, ea_, hx_⟩ := Kd.at_string (Kd.R_reads' hF_).2.2 a0_2 (of_eq_true pi191) (of_eq_true qi191)
                 cases ea_
                 refine value_ (w1 := w') (v := .string (rdOf ByteArray.empty t188 a0_2)) (by rfl) rfl ?_ ?_
                 ·
                  go_simp
                  (try simp only [i64_w])
                  try rfl
                 refine hK.out _ _ ⟨v189, adz_v189, v193, adz_v193, m7_, m14_, (by rw [ha.out]; exact putSel_upk 6 hb_ rfl rfl rfl), Q_BK186, Q_HB, Q_HO190, Q_HA_HO190, Q_HO194, Q_HA_HO194, Q_X7_, Q_X14_⟩
                refine steps_cons ?_ ?_
                ·
                 rintro b a w' ⟨v189, adz_v189, v193, adz_v193, m7_, m14_, ha, Q_BK186, Q_HB, Q_HO190, Q_HA_HO190, Q_HO194, Q_HA_HO194, Q_X7_, Q_X14_⟩ hb_ hon hoff
                 refine ⟨_, rfl, fun K hK => ?_⟩
                 have e6 : a.tmps[6]? = some (.string (t187 ++ (⟨#[58, 32]⟩ : ByteArray))) := by rw [ha]; exact putSel_on (e := (3, 6, .string (t187 ++ (⟨#[58, 32]⟩ : ByteArray)))) 2 rfl rfl (hon 3 kr_) rfl
                 have e11 : a.tmps[11]? = some (.string (rdOf ByteArray.empty t188 a0_2)) := by rw [ha]; exact putSel_on (e := (8, 11, .string (rdOf ByteArray.empty t188 a0_2))) 6 rfl rfl (hon 8 kr_) rfl
                 replace ha := A_ ha
                 have BK186 := A_ Q_BK186
                 have HB := A_ Q_HB
                 have HO190 := A_ (Q_HO190 (hon 4 kr_))
                 have HA_HO190 := A_ (Q_HA_HO190 (hon 4 kr_))
                 refine value_ (w1 := w') (v := .string ((t187 ++ (⟨#[58, 32]⟩ : ByteArray)) ++ (rdOf ByteArray.empty t188 a0_2))) (by rfl) rfl ?_ ?_
                 ·
                  go_simp
                  (try simp only [i64_w])
                  try rfl
                 refine hK.out _ _ ⟨v189, adz_v189, v193, adz_v193, m7_, m14_, (by rw [ha.out]; exact putSel_upk 7 hb_ rfl rfl rfl), Q_BK186, Q_HB, Q_HO190, Q_HA_HO190, Q_HO194, Q_HA_HO194, Q_X7_, Q_X14_⟩
                refine steps_cons ?_ ?_
                ·
                 rintro b a w' ⟨v189, adz_v189, v193, adz_v193, m7_, m14_, ha, Q_BK186, Q_HB, Q_HO190, Q_HA_HO190, Q_HO194, Q_HA_HO194, Q_X7_, Q_X14_⟩ hb_ hon hoff
                 refine ⟨_, rfl, fun K hK => ?_⟩
                 have e12 : a.tmps[12]? = some (.string ((t187 ++ (⟨#[58, 32]⟩ : ByteArray)) ++ (rdOf ByteArray.empty t188 a0_2))) := by rw [ha]; exact putSel_on (e := (9, 12, .string ((t187 ++ (⟨#[58, 32]⟩ : ByteArray)) ++ (rdOf ByteArray.empty t188 a0_2)))) 7 rfl rfl (hon 9 kr_) rfl
                 replace ha := A_ ha
                 have BK186 := A_ Q_BK186
                 have HB := A_ Q_HB
                 have HO190 := A_ (Q_HO190 (hon 4 kr_))
                 have HA_HO190 := A_ (Q_HA_HO190 (hon 4 kr_))
                 refine value_ (w1 := w') (v := .string (((t187 ++ (⟨#[58, 32]⟩ : ByteArray)) ++ (rdOf ByteArray.empty t188 a0_2)) ++ (⟨#[32]⟩ : ByteArray))) (by rfl) rfl ?_ ?_
                 ·
                  go_simp
                  (try simp only [i64_w])
                  try rfl
                 refine hK.out _ _ ⟨v189, adz_v189, v193, adz_v193, m7_, m14_, (by rw [ha.out]; exact putSel_upk 8 hb_ rfl rfl rfl), Q_BK186, Q_HB, Q_HO190, Q_HA_HO190, Q_HO194, Q_HA_HO194, Q_X7_, Q_X14_⟩
                refine steps_cons ?_ ?_
                ·
                 rintro b a w' ⟨v189, adz_v189, v193, adz_v193, m7_, m14_, ha, Q_BK186, Q_HB, Q_HO190, Q_HA_HO190, Q_HO194, Q_HA_HO194, Q_X7_, Q_X14_⟩ hb_ hon hoff
                 refine ⟨_, rfl, fun K hK => ?_⟩
                 replace ha := A_ ha
                 have BK186 := A_ Q_BK186
                 have HB := A_ Q_HB
                 have HO190 := A_ (Q_HO190 (hon 4 kr_))
                 have HA_HO190 := A_ (Q_HA_HO190 (hon 4 kr_))
                 obtain ⟨co28, eo28⟩ := HA_HO190.out
                 clear HA_HO190
                 subst eo28
                 refine goes_ Tryz.func81 kr_ rfl #[] (by rfl) rfl rfl mc14 ?_
                 with_reducible refine (spec_l17Topics.calls  t192 _ A9.out).mono ?_
                 rintro e w29 ⟨v193, rfl, ho0, hb⟩
                 refine ⟨_, rfl, ?_⟩
                 have HO194 := A_ (Kd.R_lower (Kd.R_new' ho0 (Kd.R_lt mc126)) (below_size mc52))
                 replace HO190 := A_ (Kd.R_elder' mc126 (Kd.R_base ho0) hb)
                 replace BK186 := A_ (blk_below mc97 hb)
                 replace HB := A_ (below_step mc52 hb)
                 (try clear hb)
                 (try clear ho0)
                 obtain ⟨Ao30, co30, eo30⟩ := Kd.R_slice HO194.out
                 subst eo30
                 obtain ⟨ado30, fo30, _⟩ := Kd.at_string (Kd.R_reads' HO194.out).2.2 0 (by decide) (by simp only [decide_eq_true_eq] at *; omega)
                 cases fo30
                 refine hK.out _ _ ⟨.slice (some adz_v189) t188.length co28, adz_v189, .slice (some ado30) t192.length co30, ado30, m7_, m14_, (by rw [ha.out]; exact putSel_upk 9 hb_ rfl rfl rfl), mc97, mc52, fun _ => (by (with_reducible repeat (first | apply Kd.R_alloc | apply Kd.R_drewN | apply Kd.R_drew)); exact Kd.R_mono HO190.out (fun _ hk => by first | exact hk.2 | exact hk.1 | exact hk | exact trivial | exact ⟨hk.1.1, hk.1.2⟩ | exact hk.1.1 | exact hk.1.2)), fun _ => ⟨_, rfl⟩, fun _ => (by (with_reducible repeat (first | apply Kd.R_alloc | apply Kd.R_drewN | apply Kd.R_drew)); exact Kd.R_mono HO194.out (fun _ hk => by first | exact hk.2 | exact hk.1 | exact hk | exact trivial | exact ⟨hk.1.1, hk.1.2⟩ | exact hk.1.1 | exact hk.1.2)), fun _ => ⟨_, rfl⟩, Q_X7_, fun h0_ => absurd ((hoff 14 kr_).symm.trans h0_) (by decide)⟩
                refine steps_cons ?_ ?_
                ·
                 rintro b a w' ⟨v189, adz_v189, v193, adz_v193, m7_, m14_, ha, Q_BK186, Q_HB, Q_HO190, Q_HA_HO190, Q_HO194, Q_HA_HO194, Q_X7_, Q_X14_⟩ hb_ hon hoff
                 refine ⟨_, rfl, fun K hK => ?_⟩
                 have e15 : a.tmps[15]? = some (.pointer (some ⟨gb186, 1, none⟩)) := by rw [ha]; exact (putSel_off rfl).trans rfl
                 replace ha := A_ ha
                 have BK186 := A_ Q_BK186
                 have HB := A_ Q_HB
                 have hc0_ : w'.cell? ⟨gb186, 0, none⟩ = some (.int .i64 a0_0) := bc_ BK186 0 rfl
                 have hc1_ : w'.cell? ⟨gb186, 1, none⟩ = some (.int .i64 a0_1) := bc_ BK186 1 rfl
                 have hc2_ : w'.cell? ⟨gb186, 2, none⟩ = some (.int .i64 a0_2) := bc_ BK186 2 rfl
                 have hc3_ : w'.cell? ⟨gb186, 3, none⟩ = some (.int .i64 a0_3) := bc_ BK186 3 rfl
                 have hc4_ : w'.cell? ⟨gb186, 4, none⟩ = some (.int .i64 a0_4) := bc_ BK186 4 rfl
                 have hc5_ : w'.cell? ⟨gb186, 5, none⟩ = some (.int .i64 a0_5) := bc_ BK186 5 rfl
                 refine value_ (w1 := w') (v := .int .i64 a0_1) (by rfl) rfl ?_ ?_
                 ·
                  go_simp
                  (try simp only [i64_w])
                  try rfl
                 refine hK.out _ _ ⟨v189, adz_v189, v193, adz_v193, m7_, m14_, (by rw [ha.out]; exact putSel_upk 10 hb_ rfl rfl rfl), Q_BK186, Q_HB, Q_HO190, Q_HA_HO190, Q_HO194, Q_HA_HO194, Q_X7_, fun h0_ => absurd ((hoff 14 kr_).symm.trans h0_) (by decide)⟩
                refine steps_cons ?_ ?_
                ·
                 rintro b a w' ⟨v189, adz_v189, v193, adz_v193, m7_, m14_, ha, Q_BK186, Q_HB, Q_HO190, Q_HA_HO190, Q_HO194, Q_HA_HO194, Q_X7_, Q_X14_⟩ hb_ hon hoff
                 refine ⟨_, rfl, fun K hK => ?_⟩
                 have e14 : a.tmps[14]? = some (v193) := by rw [ha]; exact putSel_on (e := (11, 14, v193)) 9 rfl rfl (hon 11 kr_) rfl
                 have e16 : a.tmps[16]? = some (.int .i64 a0_1) := by rw [ha]; exact putSel_on (e := (13, 16, .int .i64 a0_1)) 10 rfl rfl (hon 13 kr_) rfl
                 replace ha := A_ ha
                 have BK186 := A_ Q_BK186
                 have HB := A_ Q_HB
                 have HO190 := A_ (Q_HO190 (hon 4 kr_))
                 have HA_HO190 := A_ (Q_HA_HO190 (hon 4 kr_))
                 have HO194 := A_ (Q_HO194 (hon 11 kr_))
                 have HA_HO194 := A_ (Q_HA_HO194 (hon 11 kr_))
                 obtain ⟨c_, hv_⟩ := HA_HO194.out
                 rw [hv_] at e14
                 refine value_ (w1 := w') (v := .pointer (some (adz_v193.add (a0_1).toNat))) (by rfl) rfl ?_ ?_
                 ·
                  go_simp
                  (try simp only [i64_w])
                  try rfl
                 refine hK.out _ _ ⟨v189, adz_v189, v193, adz_v193, m7_, (.pointer (some (adz_v193.add (a0_1).toNat))), (by rw [ha.out]; exact putSel_upk 11 hb_ rfl rfl rfl), Q_BK186, Q_HB, Q_HO190, Q_HA_HO190, Q_HO194, Q_HA_HO194, Q_X7_, fun _ => rfl⟩
                refine steps_cons ?_ ?_
                ·
                 rintro b a w' ⟨v189, adz_v189, v193, adz_v193, m7_, m14_, ha, Q_BK186, Q_HB, Q_HO190, Q_HA_HO190, Q_HO194, Q_HA_HO194, Q_X7_, Q_X14_⟩ hb_ hon hoff
                 refine ⟨_, rfl, fun K hK => ?_⟩
                 have e17 : a.tmps[17]? = some (m14_) := by rw [ha]; exact putSel_on (e := (14, 17, m14_)) 11 rfl rfl (hon 14 kr_) rfl
                 rw [Q_X14_ (hon 14 kr_)] at e17
                 replace ha := A_ ha
                 have BK186 := A_ Q_BK186
                 have HB := A_ Q_HB
                 have HO190 := A_ (Q_HO190 (hon 4 kr_))
                 have HA_HO190 := A_ (Q_HA_HO190 (hon 4 kr_))
                 have HO194 := A_ (Q_HO194 (hon 11 kr_))
                 have HA_HO194 := A_ (Q_HA_HO194 (hon 11 kr_))
                 obtain ⟨c_, hv_⟩ := HA_HO194.out
                 have hF_ := HO194.out
                 rw [hv_] at hF_
                 obtain ⟨ad_, ea_, hx_⟩ := Kd.at_string (Kd.R_reads' hF_).2.2 a0_1 (of_eq_true pi195) (of_eq_true qi195)
                 cases ea_
                 refine value_ (w1 := w') (v := .string (rdOf ByteArray.empty t192 a0_1)) (by rfl) rfl ?_ ?_
                 ·
                  go_simp
                  (try simp only [i64_w])
                  try rfl
                 refine hK.out _ _ ⟨v189, adz_v189, v193, adz_v193, m7_, m14_, (by rw [ha.out]; exact putSel_upk 12 hb_ rfl rfl rfl), Q_BK186, Q_HB, Q_HO190, Q_HA_HO190, Q_HO194, Q_HA_HO194, Q_X7_, Q_X14_⟩
                refine steps_cons ?_ ?_
                ·
                 rintro b a w' ⟨v189, adz_v189, v193, adz_v193, m7_, m14_, ha, Q_BK186, Q_HB, Q_HO190, Q_HA_HO190, Q_HO194, Q_HA_HO194, Q_X7_, Q_X14_⟩ hb_ hon hoff
                 refine ⟨_, rfl, fun K hK => ?_⟩
                 have e13 : a.tmps[13]? = some (.string (((t187 ++ (⟨#[58, 32]⟩ : ByteArray)) ++ (rdOf ByteArray.empty t188 a0_2)) ++ (⟨#[32]⟩ : ByteArray))) := by rw [ha]; exact putSel_on (e := (10, 13, .string (((t187 ++ (⟨#[58, 32]⟩ : ByteArray)) ++ (rdOf ByteArray.empty t188 a0_2)) ++ (⟨#[32]⟩ : ByteArray)))) 8 rfl rfl (hon 10 kr_) rfl
                 have e18 : a.tmps[18]? = some (.string (rdOf ByteArray.empty t192 a0_1)) := by rw [ha]; exact putSel_on (e := (15, 18, .string (rdOf ByteArray.empty t192 a0_1))) 12 rfl rfl (hon 15 kr_) rfl
                 replace ha := A_ ha
                 have BK186 := A_ Q_BK186
                 have HB := A_ Q_HB
                 have HO190 := A_ (Q_HO190 (hon 4 kr_))
                 have HA_HO190 := A_ (Q_HA_HO190 (hon 4 kr_))
                 have HO194 := A_ (Q_HO194 (hon 11 kr_))
                 have HA_HO194 := A_ (Q_HA_HO194 (hon 11 kr_))
                 refine value_ (w1 := w') (v := .string ((((t187 ++ (⟨#[58, 32]⟩ : ByteArray)) ++ (rdOf ByteArray.empty t188 a0_2)) ++ (⟨#[32]⟩ : ByteArray)) ++ (rdOf ByteArray.empty t192 a0_1))) (by rfl) rfl ?_ ?_
                 ·
                  go_simp
                  (try simp only [i64_w])
                  try rfl
                 refine hK.out _ _ ⟨v189, adz_v189, v193, adz_v193, m7_, m14_, (by rw [ha.out]; exact putSel_upk 13 hb_ rfl rfl rfl), Q_BK186, Q_HB, Q_HO190, Q_HA_HO190, Q_HO194, Q_HA_HO194, Q_X7_, Q_X14_⟩
                refine steps_cons ?_ ?_
                ·
                 rintro b a w' ⟨v189, adz_v189, v193, adz_v193, m7_, m14_, ha, Q_BK186, Q_HB, Q_HO190, Q_HA_HO190, Q_HO194, Q_HA_HO194, Q_X7_, Q_X14_⟩ hb_ hon hoff
                 refine ⟨_, rfl, fun K hK => ?_⟩
                 have e19 : a.tmps[19]? = some (.string ((((t187 ++ (⟨#[58, 32]⟩ : ByteArray)) ++ (rdOf ByteArray.empty t188 a0_2)) ++ (⟨#[32]⟩ : ByteArray)) ++ (rdOf ByteArray.empty t192 a0_1))) := by rw [ha]; exact putSel_on (e := (16, 19, .string ((((t187 ++ (⟨#[58, 32]⟩ : ByteArray)) ++ (rdOf ByteArray.empty t188 a0_2)) ++ (⟨#[32]⟩ : ByteArray)) ++ (rdOf ByteArray.empty t192 a0_1)))) 13 rfl rfl (hon 16 kr_) rfl
                 replace ha := A_ ha
                 have BK186 := A_ Q_BK186
                 have HB := A_ Q_HB
                 have HO190 := A_ (Q_HO190 (hon 4 kr_))
                 have HA_HO190 := A_ (Q_HA_HO190 (hon 4 kr_))
                 have HO194 := A_ (Q_HO194 (hon 11 kr_))
                 have HA_HO194 := A_ (Q_HA_HO194 (hon 11 kr_))
                 refine value_ (w1 := w') (v := .string (((((t187 ++ (⟨#[58, 32]⟩ : ByteArray)) ++ (rdOf ByteArray.empty t188 a0_2)) ++ (⟨#[32]⟩ : ByteArray)) ++ (rdOf ByteArray.empty t192 a0_1)) ++ (⟨#[44, 32, 97, 114, 101, 97, 32]⟩ : ByteArray))) (by rfl) rfl ?_ ?_
                 ·
                  go_simp
                  (try simp only [i64_w])
                  try rfl
                 refine hK.out _ _ ⟨v189, adz_v189, v193, adz_v193, m7_, m14_, (by rw [ha.out]; exact putSel_upk 14 hb_ rfl rfl rfl), Q_BK186, Q_HB, Q_HO190, Q_HA_HO190, Q_HO194, Q_HA_HO194, Q_X7_, Q_X14_⟩
                refine steps_cons ?_ ?_
                ·
                 rintro b a w' ⟨v189, adz_v189, v193, adz_v193, m7_, m14_, ha, Q_BK186, Q_HB, Q_HO190, Q_HA_HO190, Q_HO194, Q_HA_HO194, Q_X7_, Q_X14_⟩ hb_ hon hoff
                 refine ⟨_, rfl, fun K hK => ?_⟩
                 have e21 : a.tmps[21]? = some (.pointer (some ⟨gb186, 3, none⟩)) := by rw [ha]; exact (putSel_off rfl).trans rfl
                 replace ha := A_ ha
                 have BK186 := A_ Q_BK186
                 have HB := A_ Q_HB
                 have hc0_ : w'.cell? ⟨gb186, 0, none⟩ = some (.int .i64 a0_0) := bc_ BK186 0 rfl
                 have hc1_ : w'.cell? ⟨gb186, 1, none⟩ = some (.int .i64 a0_1) := bc_ BK186 1 rfl
                 have hc2_ : w'.cell? ⟨gb186, 2, none⟩ = some (.int .i64 a0_2) := bc_ BK186 2 rfl
                 have hc3_ : w'.cell? ⟨gb186, 3, none⟩ = some (.int .i64 a0_3) := bc_ BK186 3 rfl
                 have hc4_ : w'.cell? ⟨gb186, 4, none⟩ = some (.int .i64 a0_4) := bc_ BK186 4 rfl
                 have hc5_ : w'.cell? ⟨gb186, 5, none⟩ = some (.int .i64 a0_5) := bc_ BK186 5 rfl
                 refine value_ (w1 := w') (v := .int .i64 a0_3) (by rfl) rfl ?_ ?_
                 ·
                  go_simp
                  (try simp only [i64_w])
                  try rfl
                 refine hK.out _ _ ⟨v189, adz_v189, v193, adz_v193, m7_, m14_, (by rw [ha.out]; exact putSel_upk 15 hb_ rfl rfl rfl), Q_BK186, Q_HB, Q_HO190, Q_HA_HO190, Q_HO194, Q_HA_HO194, Q_X7_, Q_X14_⟩
                refine steps_cons ?_ ?_
                ·
                 rintro b a w' ⟨v189, adz_v189, v193, adz_v193, m7_, m14_, ha, Q_BK186, Q_HB, Q_HO190, Q_HA_HO190, Q_HO194, Q_HA_HO194, Q_X7_, Q_X14_⟩ hb_ hon hoff
                 refine ⟨_, rfl, fun K hK => ?_⟩
                 have e22 : a.tmps[22]? = some (.int .i64 a0_3) := by rw [ha]; exact putSel_on (e := (19, 22, .int .i64 a0_3)) 15 rfl rfl (hon 19 kr_) rfl
                 replace ha := A_ ha
                 have BK186 := A_ Q_BK186
                 have HB := A_ Q_HB
                 have HO190 := A_ (Q_HO190 (hon 4 kr_))
                 have HA_HO190 := A_ (Q_HA_HO190 (hon 4 kr_))
                 have HO194 := A_ (Q_HO194 (hon 11 kr_))
                 have HA_HO194 := A_ (Q_HA_HO194 (hon 11 kr_))
                 obtain ⟨co30, eo30⟩ := HA_HO190.out
                 clear HA_HO190
                 subst eo30
                 obtain ⟨co31, eo31⟩ := HA_HO194.out
                 clear HA_HO194
                 subst eo31
                 refine goes_ Tryz.func46 kr_ rfl #[.int .i64 a0_3] (by rfl) rfl rfl (by first | (simp only [List.map_toArray, List.map_cons, List.map_nil, Act.eval, Array.getD_eq_getD_getElem?, Option.getD_some, e22]; done) | (simp only [List.map_toArray, List.map_cons, List.map_nil, Act.eval, Array.getD_eq_getD_getElem?, Option.getD_some, e22]; rfl)) ?_
                 with_reducible refine (spec_l17Line_Mspec_l1Num.calls a0_3 t196 _ A14.out).mono ?_
                 rintro e w32 ⟨rfl, hb⟩
                 refine ⟨_, rfl, ?_⟩
                 replace HO190 := A_ (Kd.R_below mc126 hb)
                 replace HO194 := A_ (Kd.R_below mc127 hb)
                 replace BK186 := A_ (blk_below mc97 hb)
                 replace HB := A_ (below_step mc52 hb)
                 (try clear hb)
                 refine hK.out _ _ ⟨.slice (some adz_v189) t188.length co30, adz_v189, .slice (some adz_v193) t192.length co31, adz_v193, m7_, m14_, (by rw [ha.out]; exact putSel_upk 16 hb_ rfl rfl rfl), mc97, mc52, fun _ => mc126, fun _ => ⟨_, rfl⟩, fun _ => mc127, fun _ => ⟨_, rfl⟩, Q_X7_, Q_X14_⟩
                refine steps_cons ?_ ?_
                ·
                 rintro b a w' ⟨v189, adz_v189, v193, adz_v193, m7_, m14_, ha, Q_BK186, Q_HB, Q_HO190, Q_HA_HO190, Q_HO194, Q_HA_HO194, Q_X7_, Q_X14_⟩ hb_ hon hoff
                 refine ⟨_, rfl, fun K hK => ?_⟩
                 have e20 : a.tmps[20]? = some (.string (((((t187 ++ (⟨#[58, 32]⟩ : ByteArray)) ++ (rdOf ByteArray.empty t188 a0_2)) ++ (⟨#[32]⟩ : ByteArray)) ++ (rdOf ByteArray.empty t192 a0_1)) ++ (⟨#[44, 32, 97, 114, 101, 97, 32]⟩ : ByteArray))) := by rw [ha]; exact putSel_on (e := (17, 20, .string (((((t187 ++ (⟨#[58, 32]⟩ : ByteArray)) ++ (rdOf ByteArray.empty t188 a0_2)) ++ (⟨#[32]⟩ : ByteArray)) ++ (rdOf ByteArray.empty t192 a0_1)) ++ (⟨#[44, 32, 97, 114, 101, 97, 32]⟩ : ByteArray)))) 14 rfl rfl (hon 17 kr_) rfl
                 have e23 : a.tmps[23]? = some (.string t196) := by rw [ha]; exact putSel_on (e := (20, 23, .string t196)) 16 rfl rfl (hon 20 kr_) rfl
                 replace ha := A_ ha
                 have BK186 := A_ Q_BK186
                 have HB := A_ Q_HB
                 have HO190 := A_ (Q_HO190 (hon 4 kr_))
                 have HA_HO190 := A_ (Q_HA_HO190 (hon 4 kr_))
                 have HO194 := A_ (Q_HO194 (hon 11 kr_))
                 have HA_HO194 := A_ (Q_HA_HO194 (hon 11 kr_))
                 refine value_ (w1 := w') (v := .string ((((((t187 ++ (⟨#[58, 32]⟩ : ByteArray)) ++ (rdOf ByteArray.empty t188 a0_2)) ++ (⟨#[32]⟩ : ByteArray)) ++ (rdOf ByteArray.empty t192 a0_1)) ++ (⟨#[44, 32, 97, 114, 101, 97, 32]⟩ : ByteArray)) ++ t196)) (by rfl) rfl ?_ ?_
                 ·
                  go_simp
                  (try simp only [i64_w])
                  try rfl
                 refine hK.out _ _ ⟨v189, adz_v189, v193, adz_v193, m7_, m14_, (by rw [ha.out]; exact putSel_upk 17 hb_ rfl rfl rfl), Q_BK186, Q_HB, Q_HO190, Q_HA_HO190, Q_HO194, Q_HA_HO194, Q_X7_, Q_X14_⟩
                refine steps_cons ?_ ?_
                ·
                 rintro b a w' ⟨v189, adz_v189, v193, adz_v193, m7_, m14_, ha, Q_BK186, Q_HB, Q_HO190, Q_HA_HO190, Q_HO194, Q_HA_HO194, Q_X7_, Q_X14_⟩ hb_ hon hoff
                 refine ⟨_, rfl, fun K hK => ?_⟩
                 have e24 : a.tmps[24]? = some (.string ((((((t187 ++ (⟨#[58, 32]⟩ : ByteArray)) ++ (rdOf ByteArray.empty t188 a0_2)) ++ (⟨#[32]⟩ : ByteArray)) ++ (rdOf ByteArray.empty t192 a0_1)) ++ (⟨#[44, 32, 97, 114, 101, 97, 32]⟩ : ByteArray)) ++ t196)) := by rw [ha]; exact putSel_on (e := (21, 24, .string ((((((t187 ++ (⟨#[58, 32]⟩ : ByteArray)) ++ (rdOf ByteArray.empty t188 a0_2)) ++ (⟨#[32]⟩ : ByteArray)) ++ (rdOf ByteArray.empty t192 a0_1)) ++ (⟨#[44, 32, 97, 114, 101, 97, 32]⟩ : ByteArray)) ++ t196))) 17 rfl rfl (hon 21 kr_) rfl
                 replace ha := A_ ha
                 have BK186 := A_ Q_BK186
                 have HB := A_ Q_HB
                 have HO190 := A_ (Q_HO190 (hon 4 kr_))
                 have HA_HO190 := A_ (Q_HA_HO190 (hon 4 kr_))
                 have HO194 := A_ (Q_HO194 (hon 11 kr_))
                 have HA_HO194 := A_ (Q_HA_HO194 (hon 11 kr_))
                 refine value_ (w1 := w') (v := .string (((((((t187 ++ (⟨#[58, 32]⟩ : ByteArray)) ++ (rdOf ByteArray.empty t188 a0_2)) ++ (⟨#[32]⟩ : ByteArray)) ++ (rdOf ByteArray.empty t192 a0_1)) ++ (⟨#[44, 32, 97, 114, 101, 97, 32]⟩ : ByteArray)) ++ t196) ++ (⟨#[44, 32, 104, 111, 117, 114, 115, 32]⟩ : ByteArray))) (by rfl) rfl ?_ ?_
                 ·
                  go_simp
                  (try simp only [i64_w])
                  try rfl
                 refine hK.out _ _ ⟨v189, adz_v189, v193, adz_v193, m7_, m14_, (by rw [ha.out]; exact putSel_upk 18 hb_ rfl rfl rfl), Q_BK186, Q_HB, Q_HO190, Q_HA_HO190, Q_HO194, Q_HA_HO194, Q_X7_, Q_X14_⟩
                refine steps_cons ?_ ?_
                ·
                 rintro b a w' ⟨v189, adz_v189, v193, adz_v193, m7_, m14_, ha, Q_BK186, Q_HB, Q_HO190, Q_HA_HO190, Q_HO194, Q_HA_HO194, Q_X7_, Q_X14_⟩ hb_ hon hoff
                 refine ⟨_, rfl, fun K hK => ?_⟩
                 have e26 : a.tmps[26]? = some (.pointer (some ⟨gb186, 4, none⟩)) := by rw [ha]; exact (putSel_off rfl).trans rfl
                 replace ha := A_ ha
                 have BK186 := A_ Q_BK186
                 have HB := A_ Q_HB
                 have hc0_ : w'.cell? ⟨gb186, 0, none⟩ = some (.int .i64 a0_0) := bc_ BK186 0 rfl
                 have hc1_ : w'.cell? ⟨gb186, 1, none⟩ = some (.int .i64 a0_1) := bc_ BK186 1 rfl
                 have hc2_ : w'.cell? ⟨gb186, 2, none⟩ = some (.int .i64 a0_2) := bc_ BK186 2 rfl
                 have hc3_ : w'.cell? ⟨gb186, 3, none⟩ = some (.int .i64 a0_3) := bc_ BK186 3 rfl
                 have hc4_ : w'.cell? ⟨gb186, 4, none⟩ = some (.int .i64 a0_4) := bc_ BK186 4 rfl
                 have hc5_ : w'.cell? ⟨gb186, 5, none⟩ = some (.int .i64 a0_5) := bc_ BK186 5 rfl
                 refine value_ (w1 := w') (v := .int .i64 a0_4) (by rfl) rfl ?_ ?_
                 ·
                  go_simp
                  (try simp only [i64_w])
                  try rfl
                 refine hK.out _ _ ⟨v189, adz_v189, v193, adz_v193, m7_, m14_, (by rw [ha.out]; exact putSel_upk 19 hb_ rfl rfl rfl), Q_BK186, Q_HB, Q_HO190, Q_HA_HO190, Q_HO194, Q_HA_HO194, Q_X7_, Q_X14_⟩
                refine steps_cons ?_ ?_
                ·
                 rintro b a w' ⟨v189, adz_v189, v193, adz_v193, m7_, m14_, ha, Q_BK186, Q_HB, Q_HO190, Q_HA_HO190, Q_HO194, Q_HA_HO194, Q_X7_, Q_X14_⟩ hb_ hon hoff
                 refine ⟨_, rfl, fun K hK => ?_⟩
                 have e27 : a.tmps[27]? = some (.int .i64 a0_4) := by rw [ha]; exact putSel_on (e := (24, 27, .int .i64 a0_4)) 19 rfl rfl (hon 24 kr_) rfl
                 replace ha := A_ ha
                 have BK186 := A_ Q_BK186
                 have HB := A_ Q_HB
                 have HO190 := A_ (Q_HO190 (hon 4 kr_))
                 have HA_HO190 := A_ (Q_HA_HO190 (hon 4 kr_))
                 have HO194 := A_ (Q_HO194 (hon 11 kr_))
                 have HA_HO194 := A_ (Q_HA_HO194 (hon 11 kr_))
                 obtain ⟨co31, eo31⟩ := HA_HO190.out
                 clear HA_HO190
                 subst eo31
                 obtain ⟨co32, eo32⟩ := HA_HO194.out
                 clear HA_HO194
                 subst eo32
                 refine goes_ Tryz.func46 kr_ rfl #[.int .i64 a0_4] (by rfl) rfl rfl (by first | (simp only [List.map_toArray, List.map_cons, List.map_nil, Act.eval, Array.getD_eq_getD_getElem?, Option.getD_some, e27]; done) | (simp only [List.map_toArray, List.map_cons, List.map_nil, Act.eval, Array.getD_eq_getD_getElem?, Option.getD_some, e27]; rfl)) ?_
                 with_reducible refine (spec_l17Line_Mspec_l1Num.calls a0_4 t197 _ A17.out).mono ?_
                 rintro e w33 ⟨rfl, hb⟩
                 refine ⟨_, rfl, ?_⟩
                 replace HO190 := A_ (Kd.R_below mc126 hb)
                 replace HO194 := A_ (Kd.R_below mc127 hb)
                 replace BK186 := A_ (blk_below mc97 hb)
                 replace HB := A_ (below_step mc52 hb)
                 (try clear hb)
                 refine hK.out _ _ ⟨.slice (some adz_v189) t188.length co31, adz_v189, .slice (some adz_v193) t192.length co32, adz_v193, m7_, m14_, (by rw [ha.out]; exact putSel_upk 20 hb_ rfl rfl rfl), mc97, mc52, fun _ => mc126, fun _ => ⟨_, rfl⟩, fun _ => mc127, fun _ => ⟨_, rfl⟩, Q_X7_, Q_X14_⟩
                refine steps_cons ?_ ?_
                ·
                 rintro b a w' ⟨v189, adz_v189, v193, adz_v193, m7_, m14_, ha, Q_BK186, Q_HB, Q_HO190, Q_HA_HO190, Q_HO194, Q_HA_HO194, Q_X7_, Q_X14_⟩ hb_ hon hoff
                 refine ⟨_, rfl, fun K hK => ?_⟩
                 have e25 : a.tmps[25]? = some (.string (((((((t187 ++ (⟨#[58, 32]⟩ : ByteArray)) ++ (rdOf ByteArray.empty t188 a0_2)) ++ (⟨#[32]⟩ : ByteArray)) ++ (rdOf ByteArray.empty t192 a0_1)) ++ (⟨#[44, 32, 97, 114, 101, 97, 32]⟩ : ByteArray)) ++ t196) ++ (⟨#[44, 32, 104, 111, 117, 114, 115, 32]⟩ : ByteArray))) := by rw [ha]; exact putSel_on (e := (22, 25, .string (((((((t187 ++ (⟨#[58, 32]⟩ : ByteArray)) ++ (rdOf ByteArray.empty t188 a0_2)) ++ (⟨#[32]⟩ : ByteArray)) ++ (rdOf ByteArray.empty t192 a0_1)) ++ (⟨#[44, 32, 97, 114, 101, 97, 32]⟩ : ByteArray)) ++ t196) ++ (⟨#[44, 32, 104, 111, 117, 114, 115, 32]⟩ : ByteArray)))) 18 rfl rfl (hon 22 kr_) rfl
                 have e28 : a.tmps[28]? = some (.string t197) := by rw [ha]; exact putSel_on (e := (25, 28, .string t197)) 20 rfl rfl (hon 25 kr_) rfl
                 replace ha := A_ ha
                 have BK186 := A_ Q_BK186
                 have HB := A_ Q_HB
                 have HO190 := A_ (Q_HO190 (hon 4 kr_))
                 have HA_HO190 := A_ (Q_HA_HO190 (hon 4 kr_))
                 have HO194 := A_ (Q_HO194 (hon 11 kr_))
                 have HA_HO194 := A_ (Q_HA_HO194 (hon 11 kr_))
                 refine value_ (w1 := w') (v := .string ((((((((t187 ++ (⟨#[58, 32]⟩ : ByteArray)) ++ (rdOf ByteArray.empty t188 a0_2)) ++ (⟨#[32]⟩ : ByteArray)) ++ (rdOf ByteArray.empty t192 a0_1)) ++ (⟨#[44, 32, 97, 114, 101, 97, 32]⟩ : ByteArray)) ++ t196) ++ (⟨#[44, 32, 104, 111, 117, 114, 115, 32]⟩ : ByteArray)) ++ t197)) (by rfl) rfl ?_ ?_
                 ·
                  go_simp
                  (try simp only [i64_w])
                  try rfl
                 refine hK.out _ _ ⟨v189, adz_v189, v193, adz_v193, m7_, m14_, (by rw [ha.out]; exact putSel_upk 21 hb_ rfl rfl rfl), Q_BK186, Q_HB, Q_HO190, Q_HA_HO190, Q_HO194, Q_HA_HO194, Q_X7_, Q_X14_⟩
                refine steps_cons ?_ ?_
                ·
                 rintro b a w' ⟨v189, adz_v189, v193, adz_v193, m7_, m14_, ha, Q_BK186, Q_HB, Q_HO190, Q_HA_HO190, Q_HO194, Q_HA_HO194, Q_X7_, Q_X14_⟩ hb_ hon hoff
                 refine ⟨_, rfl, fun K hK => ?_⟩
                 have e29 : a.tmps[29]? = some (.string ((((((((t187 ++ (⟨#[58, 32]⟩ : ByteArray)) ++ (rdOf ByteArray.empty t188 a0_2)) ++ (⟨#[32]⟩ : ByteArray)) ++ (rdOf ByteArray.empty t192 a0_1)) ++ (⟨#[44, 32, 97, 114, 101, 97, 32]⟩ : ByteArray)) ++ t196) ++ (⟨#[44, 32, 104, 111, 117, 114, 115, 32]⟩ : ByteArray)) ++ t197)) := by rw [ha]; exact putSel_on (e := (26, 29, .string ((((((((t187 ++ (⟨#[58, 32]⟩ : ByteArray)) ++ (rdOf ByteArray.empty t188 a0_2)) ++ (⟨#[32]⟩ : ByteArray)) ++ (rdOf ByteArray.empty t192 a0_1)) ++ (⟨#[44, 32, 97, 114, 101, 97, 32]⟩ : ByteArray)) ++ t196) ++ (⟨#[44, 32, 104, 111, 117, 114, 115, 32]⟩ : ByteArray)) ++ t197))) 21 rfl rfl (hon 26 kr_) rfl
                 replace ha := A_ ha
                 have BK186 := A_ Q_BK186
                 have HB := A_ Q_HB
                 have HO190 := A_ (Q_HO190 (hon 4 kr_))
                 have HA_HO190 := A_ (Q_HA_HO190 (hon 4 kr_))
                 have HO194 := A_ (Q_HO194 (hon 11 kr_))
                 have HA_HO194 := A_ (Q_HA_HO194 (hon 11 kr_))
                 refine value_ (w1 := w') (v := .string (((((((((t187 ++ (⟨#[58, 32]⟩ : ByteArray)) ++ (rdOf ByteArray.empty t188 a0_2)) ++ (⟨#[32]⟩ : ByteArray)) ++ (rdOf ByteArray.empty t192 a0_1)) ++ (⟨#[44, 32, 97, 114, 101, 97, 32]⟩ : ByteArray)) ++ t196) ++ (⟨#[44, 32, 104, 111, 117, 114, 115, 32]⟩ : ByteArray)) ++ t197) ++ (⟨#[45]⟩ : ByteArray))) (by rfl) rfl ?_ ?_
                 ·
                  go_simp
                  (try simp only [i64_w])
                  try rfl
                 refine hK.out _ _ ⟨v189, adz_v189, v193, adz_v193, m7_, m14_, (by rw [ha.out]; exact putSel_upk 22 hb_ rfl rfl rfl), Q_BK186, Q_HB, Q_HO190, Q_HA_HO190, Q_HO194, Q_HA_HO194, Q_X7_, Q_X14_⟩
                refine steps_cons ?_ ?_
                ·
                 rintro b a w' ⟨v189, adz_v189, v193, adz_v193, m7_, m14_, ha, Q_BK186, Q_HB, Q_HO190, Q_HA_HO190, Q_HO194, Q_HA_HO194, Q_X7_, Q_X14_⟩ hb_ hon hoff
                 refine ⟨_, rfl, fun K hK => ?_⟩
                 have e31 : a.tmps[31]? = some (.pointer (some ⟨gb186, 5, none⟩)) := by rw [ha]; exact (putSel_off rfl).trans rfl
                 replace ha := A_ ha
                 have BK186 := A_ Q_BK186
                 have HB := A_ Q_HB
                 have hc0_ : w'.cell? ⟨gb186, 0, none⟩ = some (.int .i64 a0_0) := bc_ BK186 0 rfl
                 have hc1_ : w'.cell? ⟨gb186, 1, none⟩ = some (.int .i64 a0_1) := bc_ BK186 1 rfl
                 have hc2_ : w'.cell? ⟨gb186, 2, none⟩ = some (.int .i64 a0_2) := bc_ BK186 2 rfl
                 have hc3_ : w'.cell? ⟨gb186, 3, none⟩ = some (.int .i64 a0_3) := bc_ BK186 3 rfl
                 have hc4_ : w'.cell? ⟨gb186, 4, none⟩ = some (.int .i64 a0_4) := bc_ BK186 4 rfl
                 have hc5_ : w'.cell? ⟨gb186, 5, none⟩ = some (.int .i64 a0_5) := bc_ BK186 5 rfl
                 refine value_ (w1 := w') (v := .int .i64 a0_5) (by rfl) rfl ?_ ?_
                 ·
                  go_simp
                  (try simp only [i64_w])
                  try rfl
                 refine hK.out _ _ ⟨v189, adz_v189, v193, adz_v193, m7_, m14_, (by rw [ha.out]; exact putSel_upk 23 hb_ rfl rfl rfl), Q_BK186, Q_HB, Q_HO190, Q_HA_HO190, Q_HO194, Q_HA_HO194, Q_X7_, Q_X14_⟩
                refine steps_cons ?_ ?_
                ·
                 rintro b a w' ⟨v189, adz_v189, v193, adz_v193, m7_, m14_, ha, Q_BK186, Q_HB, Q_HO190, Q_HA_HO190, Q_HO194, Q_HA_HO194, Q_X7_, Q_X14_⟩ hb_ hon hoff
                 refine ⟨_, rfl, fun K hK => ?_⟩
                 have e32 : a.tmps[32]? = some (.int .i64 a0_5) := by rw [ha]; exact putSel_on (e := (29, 32, .int .i64 a0_5)) 23 rfl rfl (hon 29 kr_) rfl
                 replace ha := A_ ha
                 have BK186 := A_ Q_BK186
                 have HB := A_ Q_HB
                 have HO190 := A_ (Q_HO190 (hon 4 kr_))
                 have HA_HO190 := A_ (Q_HA_HO190 (hon 4 kr_))
                 have HO194 := A_ (Q_HO194 (hon 11 kr_))
                 have HA_HO194 := A_ (Q_HA_HO194 (hon 11 kr_))
                 obtain ⟨co32, eo32⟩ := HA_HO190.out
                 clear HA_HO190
                 subst eo32
                 obtain ⟨co33, eo33⟩ := HA_HO194.out
                 clear HA_HO194
                 subst eo33
                 refine goes_ Tryz.func46 kr_ rfl #[.int .i64 a0_5] (by rfl) rfl rfl (by first | (simp only [List.map_toArray, List.map_cons, List.map_nil, Act.eval, Array.getD_eq_getD_getElem?, Option.getD_some, e32]; done) | (simp only [List.map_toArray, List.map_cons, List.map_nil, Act.eval, Array.getD_eq_getD_getElem?, Option.getD_some, e32]; rfl)) ?_
                 with_reducible refine (spec_l17Line_Mspec_l1Num.calls a0_5 t198 _ A20.out).mono ?_
                 rintro e w34 ⟨rfl, hb⟩
                 refine ⟨_, rfl, ?_⟩
                 replace HO190 := A_ (Kd.R_below mc126 hb)
                 replace HO194 := A_ (Kd.R_below mc127 hb)
                 replace BK186 := A_ (blk_below mc97 hb)
                 replace HB := A_ (below_step mc52 hb)
                 (try clear hb)
                 refine hK.out _ _ ⟨.slice (some adz_v189) t188.length co32, adz_v189, .slice (some adz_v193) t192.length co33, adz_v193, m7_, m14_, (by rw [ha.out]; exact putSel_upk 24 hb_ rfl rfl rfl), mc97, mc52, fun _ => mc126, fun _ => ⟨_, rfl⟩, fun _ => mc127, fun _ => ⟨_, rfl⟩, Q_X7_, Q_X14_⟩
                refine steps_cons ?_ ?_
                ·
                 rintro b a w' ⟨v189, adz_v189, v193, adz_v193, m7_, m14_, ha, Q_BK186, Q_HB, Q_HO190, Q_HA_HO190, Q_HO194, Q_HA_HO194, Q_X7_, Q_X14_⟩ hb_ hon hoff
                 refine ⟨_, rfl, fun K hK => ?_⟩
                 have e30 : a.tmps[30]? = some (.string (((((((((t187 ++ (⟨#[58, 32]⟩ : ByteArray)) ++ (rdOf ByteArray.empty t188 a0_2)) ++ (⟨#[32]⟩ : ByteArray)) ++ (rdOf ByteArray.empty t192 a0_1)) ++ (⟨#[44, 32, 97, 114, 101, 97, 32]⟩ : ByteArray)) ++ t196) ++ (⟨#[44, 32, 104, 111, 117, 114, 115, 32]⟩ : ByteArray)) ++ t197) ++ (⟨#[45]⟩ : ByteArray))) := by rw [ha]; exact putSel_on (e := (27, 30, .string (((((((((t187 ++ (⟨#[58, 32]⟩ : ByteArray)) ++ (rdOf ByteArray.empty t188 a0_2)) ++ (⟨#[32]⟩ : ByteArray)) ++ (rdOf ByteArray.empty t192 a0_1)) ++ (⟨#[44, 32, 97, 114, 101, 97, 32]⟩ : ByteArray)) ++ t196) ++ (⟨#[44, 32, 104, 111, 117, 114, 115, 32]⟩ : ByteArray)) ++ t197) ++ (⟨#[45]⟩ : ByteArray)))) 22 rfl rfl (hon 27 kr_) rfl
                 have e33 : a.tmps[33]? = some (.string t198) := by rw [ha]; exact putSel_on (e := (30, 33, .string t198)) 24 rfl rfl (hon 30 kr_) rfl
                 replace ha := A_ ha
                 have BK186 := A_ Q_BK186
                 have HB := A_ Q_HB
                 have HO190 := A_ (Q_HO190 (hon 4 kr_))
                 have HA_HO190 := A_ (Q_HA_HO190 (hon 4 kr_))
                 have HO194 := A_ (Q_HO194 (hon 11 kr_))
                 have HA_HO194 := A_ (Q_HA_HO194 (hon 11 kr_))
                 refine value_ (w1 := w') (v := .string ((((((((((t187 ++ (⟨#[58, 32]⟩ : ByteArray)) ++ (rdOf ByteArray.empty t188 a0_2)) ++ (⟨#[32]⟩ : ByteArray)) ++ (rdOf ByteArray.empty t192 a0_1)) ++ (⟨#[44, 32, 97, 114, 101, 97, 32]⟩ : ByteArray)) ++ t196) ++ (⟨#[44, 32, 104, 111, 117, 114, 115, 32]⟩ : ByteArray)) ++ t197) ++ (⟨#[45]⟩ : ByteArray)) ++ t198)) (by rfl) rfl ?_ ?_
                 ·
                  go_simp
                  (try simp only [i64_w])
                  try rfl
                 refine hK.out _ _ ⟨v189, adz_v189, v193, adz_v193, m7_, m14_, (by rw [ha.out]; exact putSel_upk 25 hb_ rfl rfl rfl), Q_BK186, Q_HB, Q_HO190, Q_HA_HO190, Q_HO194, Q_HA_HO194, Q_X7_, Q_X14_⟩
                refine steps_cons ?_ ?_
                ·
                 rintro b a w' ⟨v189, adz_v189, v193, adz_v193, m7_, m14_, ha, Q_BK186, Q_HB, Q_HO190, Q_HA_HO190, Q_HO194, Q_HA_HO194, Q_X7_, Q_X14_⟩ hb_ hon hoff
                 refine ⟨_, rfl, fun K hK => ?_⟩
                 have e34 : a.tmps[34]? = some (.string ((((((((((t187 ++ (⟨#[58, 32]⟩ : ByteArray)) ++ (rdOf ByteArray.empty t188 a0_2)) ++ (⟨#[32]⟩ : ByteArray)) ++ (rdOf ByteArray.empty t192 a0_1)) ++ (⟨#[44, 32, 97, 114, 101, 97, 32]⟩ : ByteArray)) ++ t196) ++ (⟨#[44, 32, 104, 111, 117, 114, 115, 32]⟩ : ByteArray)) ++ t197) ++ (⟨#[45]⟩ : ByteArray)) ++ t198)) := by rw [ha]; exact putSel_on (e := (31, 34, .string ((((((((((t187 ++ (⟨#[58, 32]⟩ : ByteArray)) ++ (rdOf ByteArray.empty t188 a0_2)) ++ (⟨#[32]⟩ : ByteArray)) ++ (rdOf ByteArray.empty t192 a0_1)) ++ (⟨#[44, 32, 97, 114, 101, 97, 32]⟩ : ByteArray)) ++ t196) ++ (⟨#[44, 32, 104, 111, 117, 114, 115, 32]⟩ : ByteArray)) ++ t197) ++ (⟨#[45]⟩ : ByteArray)) ++ t198))) 25 rfl rfl (hon 31 kr_) rfl
                 replace ha := A_ ha
                 have BK186 := A_ Q_BK186
                 have HB := A_ Q_HB
                 have HO190 := A_ (Q_HO190 (hon 4 kr_))
                 have HA_HO190 := A_ (Q_HA_HO190 (hon 4 kr_))
                 have HO194 := A_ (Q_HO194 (hon 11 kr_))
                 have HA_HO194 := A_ (Q_HA_HO194 (hon 11 kr_))
                 refine value_ (w1 := w') (v := .string ((((((((((t187 ++ (⟨#[58, 32]⟩ : ByteArray)) ++ (rdOf ByteArray.empty t188 a0_2)) ++ (⟨#[32]⟩ : ByteArray)) ++ (rdOf ByteArray.empty t192 a0_1)) ++ (⟨#[44, 32, 97, 114, 101, 97, 32]⟩ : ByteArray)) ++ t196) ++ (⟨#[44, 32, 104, 111, 117, 114, 115, 32]⟩ : ByteArray)) ++ t197) ++ (⟨#[45]⟩ : ByteArray)) ++ t198)) (by rfl) rfl ?_ ?_
                 ·
                  go_simp
                  (try simp only [i64_w])
                  try rfl
                 refine hK.out _ _ ⟨v189, adz_v189, v193, adz_v193, m7_, m14_, (by rw [ha.out]; exact putSel_upk 26 hb_ rfl rfl rfl), Q_BK186, Q_HB, Q_HO190, Q_HA_HO190, Q_HO194, Q_HA_HO194, Q_X7_, Q_X14_⟩
                exact steps_nil
               rintro b a w32 hall ⟨v189, adz_v189, v193, adz_v193, m7_, m14_, ha, Q_BK186, Q_HB, Q_HO190, Q_HA_HO190, Q_HO194, Q_HA_HO194, Q_X7_, Q_X14_⟩
               clear BK186 HB
               have hb1_ := hall 1 kr_
               have hb2_ := hall 2 kr_
               have hb3_ := hall 3 kr_
               have hb4_ := hall 4 kr_
               have hb6_ := hall 6 kr_
               have hb7_ := hall 7 kr_
               have hb8_ := hall 8 kr_
               have hb9_ := hall 9 kr_
               have hb10_ := hall 10 kr_
               have hb11_ := hall 11 kr_
               have hb13_ := hall 13 kr_
               have hb14_ := hall 14 kr_
               have hb15_ := hall 15 kr_
               have hb16_ := hall 16 kr_
               have hb17_ := hall 17 kr_
               have hb19_ := hall 19 kr_
               have hb20_ := hall 20 kr_
               have hb21_ := hall 21 kr_
               have hb22_ := hall 22 kr_
               have hb24_ := hall 24 kr_
               have hb25_ := hall 25 kr_
               have hb26_ := hall 26 kr_
               have hb27_ := hall 27 kr_
               have hb29_ := hall 29 kr_
               have hb30_ := hall 30 kr_
               have hb31_ := hall 31 kr_
               have hb32_ := hall 32 kr_
               subst ha
               obtain rfl := Q_X7_ hb7_
               obtain rfl := Q_X14_ hb14_
               simp only [putSel, hb1_, hb2_, hb3_, hb4_, hb6_, hb7_, hb8_, hb9_, hb10_, hb11_, hb13_, hb14_, hb15_, hb16_, hb17_, hb19_, hb20_, hb21_, hb22_, hb24_, hb25_, hb26_, hb27_, hb29_, hb30_, hb31_, hb32_, if_true, Act.put, List.setIfInBounds_toArray, List.set_cons_zero, List.set_cons_succ]
               have BK186 := A_ Q_BK186
               clear Q_BK186
               have HB := A_ Q_HB
               clear Q_HB
               have HO190 := A_ (Q_HO190 hb4_)
               clear Q_HO190
               have HA_HO190 := A_ (Q_HA_HO190 hb4_)
               clear Q_HA_HO190
               have HO194 := A_ (Q_HO194 hb11_)
               clear Q_HO194
               have HA_HO194 := A_ (Q_HA_HO194 hb11_)
               clear Q_HA_HO194
               clear hall hb1_ hb2_ hb3_ hb4_ hb6_ hb7_ hb8_ hb9_ hb10_ hb11_ hb13_ hb14_ hb15_ hb16_ hb17_ hb19_ hb20_ hb21_ hb22_ hb24_ hb25_ hb26_ hb27_ hb29_ hb30_ hb31_ hb32_
               obtain ⟨co33, eo33⟩ := HA_HO190.out
               clear HA_HO190
               subst eo33
               obtain ⟨co34, eo34⟩ := HA_HO194.out
               clear HA_HO194
               subst eo34
               try go_wp2
               go_ret
               exact ⟨mc133, by repeat (first | (with_reducible first | exact HB.out | apply below_alloc | apply pw_below_drewN | apply below_drew1 | refine below_set ?_ GE186.out) | exact HB.out)⟩
              ·
               rw [if_neg c21] at H
               exact absurd H (by simp)
             ·
              rw [if_neg c19] at H
              exact absurd H (by simp)
            ·
             rw [if_neg c18] at H
             exact absurd H (by simp)
           ·
            rw [if_neg c16] at H
            exact absurd H (by simp)
          ·
           rw [if_neg c15] at H
           exact absurd H (by simp)
         ·
          rw [if_neg c13] at H
          exact absurd H (by simp)
        ·
         rw [if_neg c12] at H
         exact absurd H (by simp)
       ·
        rw [if_neg c11] at H
        exact absurd H (by simp)
      ·
       rw [if_neg c10] at H
       exact absurd H (by simp)
     ·
      rw [if_neg c8] at H
      exact absurd H (by simp)
    ·
     rw [if_neg c7] at H
     exact absurd H (by simp)
   ·
    rw [if_neg c6] at H
    exact absurd H (by simp)
  ·
   rw [if_neg c5] at H
   exact absurd H (by simp)
 ·
  rw [if_neg c3] at H
  exact absurd H (by simp)

end Go.Proofs.YtlnlabndaikbnaaGreatDoor.P
