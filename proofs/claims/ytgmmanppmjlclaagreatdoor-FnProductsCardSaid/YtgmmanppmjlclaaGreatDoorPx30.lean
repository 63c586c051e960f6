-- Made by pp.py of this session out of the kit's print and of contracts proved by hand; Lean checks it.
import Derived.Test.YtgmmanppmjlclaaGreatDoorMc
import Derived.Test.YtgmmanppmjlclaaGreatDoorPx0
import Derived.Test.YtgmmanppmjlclaaGreatDoorPx3
import Derived.Test.YtgmmanppmjlclaaGreatDoorPx6
import Derived.Test.YtgmmanppmjlclaaGreatDoorPx7
import Derived.Test.YtgmmanppmjlclaaGreatDoorPx8
import Derived.Test.YtgmmanppmjlclaaGreatDoorPx22
import Derived.Test.YtgmmanppmjlclaaGreatDoorPx23
import Derived.Test.YtgmmanppmjlclaaGreatDoorPx29
namespace Go.Proofs.YtgmmanppmjlclaaGreatDoor.P
open Go.RowKit Go.Proofs.YtgmmanppmjlclaaGreatDoorW.PrintWords Go.Proofs.YtgmmanppmjlclaaGreatDoorW.PrintLast Go.Proofs.YtgmmanppmjlclaaGreatDoorW.PrintMore
attribute [local go_sem] max2_int min2_int max_two min_two max_three min_three max_four min_four   -- for this text's walks alone
set_option linter.unusedVariables false
set_option linter.unusedSimpArgs false

/-! ### spec_l1Read: function 45 -/
mutual
def spec_l1Read.j0 : Nat → ByteArray → ByteArray → Bool → Option (Int × Bool)
 | 0, _, _, _ => none
 | k + 1, x0, x4, x15 => if x15 = true then (if 1 ≤ (x4.size : Int) then (spec_l1Read.j1 k x0 (x4.extract 1 x4.size)) else (none)) else (spec_l1Read.j1 k x0 x4)
def spec_l1Read.j1 : Nat → ByteArray → ByteArray → Option (Int × Bool)
 | 0, _, _ => none
 | k + 1, x0, x4 => (spec_l1In.f (x4.size : Int) 1 6).bind fun t387 => (if t387 = true then (spec_l1Read.l0 k x0 x4 0 0) else (some (0, false)))
def spec_l1Read.l0 : Nat → ByteArray → ByteArray → Int → Int → Option (Int × Bool)
 | 0, _, _, _, _ => none
 | k + 1, x0, x4, x5, x6 => if x6 < (x4.size : Int) then (if 0 ≤ x6 then (if (bt x4 x6) < 48 then (some (0, false)) else (if (bt x4 x6) > 57 then (some (0, false)) else (spec_l1Read.l0 k x0 x4 (wrap64 ((wrap64 (10 * x5)) + (((bt x4 x6) - 48) % 256))) (wrap64 (x6 + 1))))) else (none)) else (if (x4.size : Int) < (x0.size : Int) then ((spec_l1Num.f (wrap64 (-x5))).bind fun t388 => (if t388.toList = x0.toList then (some (wrap64 (-x5), true)) else (some (0, false)))) else ((spec_l1Num.f x5).bind fun t389 => (if t389.toList = x0.toList then (some (x5, true)) else (some (0, false)))))
end
def spec_l1Read.f (k : Nat) (a0 : ByteArray) : Option (Int × Bool) := if (a0.size : Int) > 1 then (if 0 < (a0.size : Int) then (spec_l1Read.j0 k a0 a0 ((bt a0 0) == 45)) else (none)) else (spec_l1Read.j0 k a0 a0 false)
theorem spec_l1Read.calls.L1 {P : Prop} (h : P := by
 simp only [Option.some.injEq, Prod.mk.injEq] at H
 obtain ⟨rfl, rfl⟩ := H
 first
 | have p13 : 0 ≤ (x6_3 : Int) := of_decide_eq_true mc81
   have q13 : x6_3 < (x4_5.size : Int) := of_decide_eq_true mc81
   have hx13 := bt_at x4_5 x6_3
   replace p13 := eq_true p13
   replace q13 := eq_true q13
   first
   | go_wp2
     go_ret2
     exact ⟨mc82, mc80⟩
   | have p15 : 0 ≤ (x6_3 : Int) := of_decide_eq_true mc81
     have q15 : x6_3 < (x4_5.size : Int) := of_decide_eq_true mc81
     have hx15 := bt_at x4_5 x6_3
     replace p15 := eq_true p15
     replace q15 := eq_true q15
     go_wp2
     go_ret2
     exact ⟨mc82, mc80⟩
 | go_wp2_with (first | ((with_reducible refine gc_ 36 rfl ?_); refine goesL_ (some 54) rfl rfl Tryz.func36 kr_ rfl #[.int .i64 (wrap64 (-x5_3))] rfl mc47 ?_; (with_reducible refine (spec_l1Num.calls (wrap64 (-x5_3)) _ _ A19.out).mono ?_); rintro e w' ⟨rfl, ⟨nd, rfl⟩⟩; refine ⟨_, rfl, ?_⟩) | ((with_reducible refine gc_ 36 rfl ?_); refine goesL_ (some 54) rfl rfl Tryz.func36 kr_ rfl #[.int .i64 x5_3] rfl mc47 ?_; (with_reducible refine (spec_l1Num.calls x5_3 _ _ A21.out).mono ?_); rintro e w' ⟨rfl, ⟨nd, rfl⟩⟩; refine ⟨_, rfl, ?_⟩) | ((with_reducible refine gc_ 68 rfl ?_); refine goesL_ (some 20) rfl rfl Tryz.func68 kr_ rfl #[.int .i64 (x4_5.size : Int), .int .i64 1, .int .i64 6] rfl mc47 ?_; (with_reducible refine (spec_l1In.calls (x4_5.size : Int) 1 6 _ _ A9.out).mono ?_); rintro e w' ⟨rfl, ⟨nd, rfl⟩⟩; refine ⟨_, rfl, ?_⟩))
   go_ret2
   exact ⟨mc82, mc80⟩) : P := h
set_option maxHeartbeats 8000000 in
set_option maxRecDepth 100000 in
theorem spec_l1Read.calls (k : Nat) (a0 : ByteArray) (r1 : Int) (r2 : Bool) (w : World) (h : spec_l1Read.f k a0 = some (r1, r2)) :
  Calls Tryz.prog 45 #[.string a0] w fun e w' => e = .returned (.tuple #[.int .i64 r1, .bool r2]) ∧ Drawn0 w w' := by
 have H : (if (a0.size : Int) > 1 then (if 0 < (a0.size : Int) then (spec_l1Read.j0 k a0 a0 ((bt a0 0) == 45)) else (none)) else (spec_l1Read.j0 k a0 a0 false)) = some (r1, r2) := h
 clear h
 have HC2 := A_ H
 clear H
 go_enter Tryz.func45, Tryz.ntmps45
 go_upto_region 2 with (fail)
 go_cut [15] (fun v15 wc => ∃ (kq : Nat) (x15_1 : Bool), v15 = .bool x15_1 ∧ Aside0 (spec_l1Read.j0 kq a0 a0 x15_1 = some (r1, r2)) ∧ Aside0 (kq ≤ k) ∧ Drawn0 w wc)
 case first =>
  have H := HC2.out
  clear HC2
  by_cases c3 : (a0.size : Int) > 1
  ·
   rw [if_pos c3] at H
   have c3b0 : decide (1 < (a0.size : Int)) = true := decide_eq_true c3
   have c3b1 : decide (1 < a0.size) = true := decide_eq_true (by omega)
   clear c3
   (first | rw [c3b0] | (simp only [i64_w, i32_w]; rw [c3b0]) | skip)
   by_cases c4 : 0 < (a0.size : Int)
   ·
    rw [if_pos c4] at H
    have c4b0 : decide (0 < (a0.size : Int)) = true := decide_eq_true c4
    have c4b1 : decide (0 < a0.size) = true := decide_eq_true (by omega)
    clear c4
    have H' := A_ H
    clear H
    have p5 : 0 ≤ (0 : Int) := (by omega)
    have q5 : 0 < a0.size := (by have : (0 : Int) < (a0.size : Int) := of_decide_eq_true mc81; omega)
    have hx5 : ∀ h : 0 < a0.size, ((a0[0]'h).toNat : Int) = bt a0 0 := bt_at a0 0
    clear p5
    have qi5 : (0 < (a0.size : Int)) = True := eq_true (of_decide_eq_true mc81)
    replace q5 := eq_true q5
    go_wp2
    go_meet
    case rel => exact ⟨_, (((bt a0 0) == 45)), mc82, H', ⟨mc85⟩, mc80⟩
   ·
    rw [if_neg c4] at H
    exact absurd H (by simp)
  ·
   rw [if_neg c3] at H
   have c3b0 : decide (1 < (a0.size : Int)) = false := decide_eq_false c3
   have c3b1 : decide (1 < a0.size) = false := decide_eq_false (by omega)
   clear c3
   (first | rw [c3b0] | (simp only [i64_w, i32_w]; rw [c3b0]) | skip)
   have H' := A_ H
   clear H
   go_wp2
   go_meet
   case rel => exact ⟨_, (false), mc82, H', ⟨mc85⟩, mc80⟩
 case rest =>
  clear HC2
  try clear p2
  try clear c3b0
  try clear c3b1
  try clear c4b0
  try clear c4b1
  try clear p5
  try clear q5
  try clear hx5
  try clear qi5
  try clear p5
  try clear q5
  obtain ⟨kq, x15_1, rfl, HA, HJ1, ⟨mc1, rfl⟩⟩ := hcut
  cases kq with
  | zero => exact absurd HA.out (by simp [spec_l1Read.j0])
  | succ kj1 =>
   have H := HA.out
   clear HA
   simp only [spec_l1Read.j0] at H
   have HC6 := A_ H
   clear H
   go_upto_if 15 with (fail)
   go_cut [4] (fun v4 wc => ∃ (kq : Nat) (x4_5 : ByteArray), v4 = .string x4_5 ∧ Aside0 (spec_l1Read.j1 kq a0 x4_5 = some (r1, r2)) ∧ Aside0 (kq ≤ kj1) ∧ Drawn0 w wc)
   case first =>
    have H := HC6.out
    clear HC6
    by_cases c7 : x15_1 = true
    ·
     subst c7
     rw [if_pos rfl] at H
     by_cases c8 : 1 ≤ (a0.size : Int)
     ·
      rw [if_pos c8] at H
      have c8b0 := eq_true c8
      have c8b1 : decide (1 ≤ (a0.size : Int)) = true := decide_eq_true c8
      clear c8
      have H' := A_ H
      clear H
      go_wp2
      go_meet
      case rel => exact ⟨_, (a0.extract 1 a0.size), mc82, H', ⟨by have := HJ1.out; first | omega | exact Nat.le_refl _⟩, mc80⟩
     ·
      rw [if_neg c8] at H
      exact absurd H (by simp)
    ·
     replace c7 := Bool.eq_false_iff.mpr c7
     subst c7
     rw [if_neg (show ¬ (false = true) by decide)] at H
     have H' := A_ H
     clear H
     go_wp2
     go_meet
     case rel => exact ⟨_, (a0), mc82, H', ⟨by have := HJ1.out; first | omega | exact Nat.le_refl _⟩, mc80⟩
   case rest =>
    clear HC6
    try clear p2
    try clear c3b0
    try clear c3b1
    try clear c4b0
    try clear c4b1
    try clear p5
    try clear q5
    try clear hx5
    try clear qi5
    try clear c8b0
    try clear c8b1
    try clear p2
    try clear p5
    try clear q5
    obtain ⟨kq, x4_5, rfl, HA, HJ5, ⟨mc5, rfl⟩⟩ := hcut
    cases kq with
    | zero => exact absurd HA.out (by simp [spec_l1Read.j1])
    | succ kj5 =>
     have H := HA.out
     clear HA
     simp only [spec_l1Read.j1] at H
     obtain ⟨t387, A90, H⟩ := oB_ H
     have A9 := A_ A90
     clear A90
     by_cases c10 : t387 = true
     ·
      subst c10
      rw [if_pos rfl] at H
      have H' := A_ H
      clear H
      go_wp2_with (first | ((with_reducible refine gc_ 68 rfl ?_); refine goesL_ (some 20) rfl rfl Tryz.func68 kr_ rfl #[.int .i64 (x4_5.size : Int), .int .i64 1, .int .i64 6] rfl mc47 ?_; (with_reducible refine (spec_l1In.calls (x4_5.size : Int) 1 6 true _ A9.out).mono ?_); rintro e w' ⟨rfl, ⟨nd, rfl⟩⟩; refine ⟨_, rfl, ?_⟩))
      go_loopg [5, 6] kj5 (fun kq v5 v6 w' => ∃ (x5_3 : Int) (x6_3 : Int), v5 = .int .i64 x5_3 ∧ v6 = .int .i64 x6_3 ∧ Aside0 (spec_l1Read.l0 kq a0 x4_5 x5_3 x6_3 = some (r1, r2)) ∧ Aside0 (kq ≤ kj5) ∧ Drawn0 w w')
      case atStart => exact ⟨(0), (0), mc82, mc82, H', ⟨Nat.le_refl _⟩, mc80⟩
      case round =>
       clear H'
       try clear p2
       try clear c3b0
       try clear c3b1
       try clear c4b0
       try clear c4b1
       try clear p5
       try clear q5
       try clear hx5
       try clear qi5
       try clear c8b0
       try clear c8b1
       try clear p2
       try clear p5
       try clear q5
       obtain ⟨x5_3, x6_3, rfl, rfl, HA, HK3, ⟨m3, rfl⟩⟩ := hrel
       cases gk with
       | zero => exact absurd HA.out (by simp [spec_l1Read.l0])
       | succ k3 =>
        have H := HA.out
        clear HA
        simp only [spec_l1Read.l0] at H
        by_cases c11 : x6_3 < (x4_5.size : Int)
        ·
         rw [if_pos c11] at H
         have c11b0 : decide (x6_3 < (x4_5.size : Int)) = true := decide_eq_true c11
         clear c11
         by_cases c12 : 0 ≤ x6_3
         ·
          rw [if_pos c12] at H
          have c12b0 : decide (0 ≤ x6_3) = true := decide_eq_true c12
          clear c12
          by_cases c14 : (bt x4_5 x6_3) < 48
          ·
           rw [if_pos c14] at H
           have c14b0 : decide ((bt x4_5 x6_3) < 48) = true := decide_eq_true c14
           clear c14
           exact spec_l1Read.calls.L1
          ·
           rw [if_neg c14] at H
           have c14b0 : decide ((bt x4_5 x6_3) < 48) = false := decide_eq_false c14
           clear c14
           by_cases c16 : (bt x4_5 x6_3) > 57
           ·
            rw [if_pos c16] at H
            have c16b0 : decide (57 < (bt x4_5 x6_3)) = true := decide_eq_true c16
            clear c16
            exact spec_l1Read.calls.L1
           ·
            rw [if_neg c16] at H
            have c16b0 : decide (57 < (bt x4_5 x6_3)) = false := decide_eq_false c16
            clear c16
            have H' := A_ H
            clear H
            have p13 : 0 ≤ (x6_3 : Int) := of_decide_eq_true mc81
            have q13 : x6_3 < (x4_5.size : Int) := of_decide_eq_true mc81
            have hx13 := bt_at x4_5 x6_3
            replace p13 := eq_true p13
            replace q13 := eq_true q13
            have p15 : 0 ≤ (x6_3 : Int) := of_decide_eq_true mc81
            have q15 : x6_3 < (x4_5.size : Int) := of_decide_eq_true mc81
            have hx15 := bt_at x4_5 x6_3
            replace p15 := eq_true p15
            replace q15 := eq_true q15
            have p17 : 0 ≤ (x6_3 : Int) := of_decide_eq_true mc81
            have q17 : x6_3 < (x4_5.size : Int) := of_decide_eq_true mc81
            have hx17 := bt_at x4_5 x6_3
            replace p17 := eq_true p17
            replace q17 := eq_true q17
            go_wp2
            go_roundg k3
            case measure => have := HJ1.out; have := HJ5.out; have := HK3.out; omega
            case rel => exact ⟨(wrap64 ((wrap64 (10 * x5_3)) + (((bt x4_5 x6_3) - 48) % 256))), (wrap64 (x6_3 + 1)), mc82, mc82, H', ⟨by have := HJ1.out; have := HJ5.out; have := HK3.out; omega⟩, mc80⟩
         ·
          rw [if_neg c12] at H
          exact absurd H (by simp)
        ·
         rw [if_neg c11] at H
         have c11b0 : decide (x6_3 < (x4_5.size : Int)) = false := decide_eq_false c11
         clear c11
         by_cases c18 : (x4_5.size : Int) < (a0.size : Int)
         ·
          rw [if_pos c18] at H
          have c18b0 : decide ((x4_5.size : Int) < (a0.size : Int)) = true := decide_eq_true c18
          have c18b1 : decide (x4_5.size < a0.size) = true := decide_eq_true (Int.ofNat_lt.mp c18)
          clear c18
          obtain ⟨t388, A190, H⟩ := oB_ H
          have A19 := A_ A190
          clear A190
          by_cases c20 : t388.toList = a0.toList
          ·
           rw [if_pos c20] at H
           have c20b0 : (t388.toList == a0.toList) = true := beq_iff_eq.mpr c20
           have c20b1 : (t388.toList != a0.toList) = false := bne_eq_false_iff_eq.mpr c20
           clear c20
           exact spec_l1Read.calls.L1
          ·
           rw [if_neg c20] at H
           have c20b0 : (t388.toList == a0.toList) = false := beq_eq_false_iff_ne.mpr c20
           have c20b1 : (t388.toList != a0.toList) = true := bne_iff_ne.mpr c20
           exact spec_l1Read.calls.L1
         ·
          rw [if_neg c18] at H
          have c18b0 : decide ((x4_5.size : Int) < (a0.size : Int)) = false := decide_eq_false c18
          have c18b1 : decide (x4_5.size < a0.size) = false := decide_eq_false (fun h => c18 (Int.ofNat_lt.mpr h))
          clear c18
          obtain ⟨t389, A210, H⟩ := oB_ H
          have A21 := A_ A210
          clear A210
          by_cases c22 : t389.toList = a0.toList
          ·
           rw [if_pos c22] at H
           have c22b0 : (t389.toList == a0.toList) = true := beq_iff_eq.mpr c22
           have c22b1 : (t389.toList != a0.toList) = false := bne_eq_false_iff_eq.mpr c22
           clear c22
           exact spec_l1Read.calls.L1
          ·
           rw [if_neg c22] at H
           have c22b0 : (t389.toList == a0.toList) = false := beq_eq_false_iff_ne.mpr c22
           have c22b1 : (t389.toList != a0.toList) = true := bne_iff_ne.mpr c22
           exact spec_l1Read.calls.L1
     ·
      replace c10 := Bool.eq_false_iff.mpr c10
      subst c10
      rw [if_neg (show ¬ (false = true) by decide)] at H
      exact spec_l1Read.calls.L1
/-! ### spec_ParseArchive: function 18 -/
mutual
def spec_ParseArchive.j0 : Nat → ByteArray → List (S26) → List ByteArray → Bool → Option ((List (S26)) × Bool)
 | 0, _, _, _, _ => none
 | k + 1, x0, x4, x5, x31 => if x31 = true then (some (x4, false)) else (spec_ParseArchive.l0 k x0 x4 x5 0)
def spec_ParseArchive.l0 : Nat → ByteArray → List (S26) → List ByteArray → Int → Option ((List (S26)) × Bool)
 | 0, _, _, _, _ => none
 | k + 1, x0, x4, x5, x6 => if x6 < (wrap64 ((x5.length : Int) - 1)) then (if 0 ≤ x6 then (if x6 < (x5.length : Int) then ((spec_l16Cut.f k (rdOf ByteArray.empty x5 x6) (⟨#[32]⟩ : ByteArray)).bind fun bt406 => ((spec_l16Cut.f k bt406.2.1 (⟨#[32]⟩ : ByteArray)).bind fun bt409 => ((spec_l1Read.f k bt409.1).bind fun bt412 => (if bt406.2.2 = true then (if bt409.2.2 = true then (if bt412.2 = true then (if x4.length < 3518437208883 then (spec_ParseArchive.l0 k x0 (x4 ++ [(⟨bt406.1, bt412.1, bt409.2.1⟩ : S26)]) x5 (wrap64 (x6 + 1))) else (none)) else (some ((([] : List (S26))), false))) else (some ((([] : List (S26))), false))) else (some ((([] : List (S26))), false)))))) else (none)) else (none)) else ((spec_ArchiveText.f k x4).bind fun bt397 => (if bt397.2 = true then (if bt397.1.toList = x0.toList then (some (x4, true)) else (some ((([] : List (S26))), false))) else (some ((([] : List (S26))), false))))
end
def spec_ParseArchive.f (k : Nat) (a0 : ByteArray) : Option ((List (S26)) × Bool) := (some (([] : List (S26)) : List (S26))).bind fun y390 => ((spec_l1Split.f k a0 10).bind fun t393 => (if (a0.size : Int) > 2000 then (spec_ParseArchive.j0 k a0 y390 t393 true) else (if 0 ≤ (wrap64 ((t393.length : Int) - 1)) then (if (wrap64 ((t393.length : Int) - 1)) < (t393.length : Int) then (spec_ParseArchive.j0 k a0 y390 t393 ((rdOf ByteArray.empty t393 (wrap64 ((t393.length : Int) - 1))).toList != ([] : List UInt8))) else (none)) else (none))))
set_option maxRecDepth 100000 in
theorem spec_ParseArchive.calls.L1 {P : Prop} (h : P := by
 simp only [Option.some.injEq, Prod.mk.injEq] at H
 obtain ⟨rfl, rfl⟩ := H
 first
 | go_wp2
   go_ret2
   exact ⟨_, mc76, mc74, mc53⟩
 | obtain ⟨Ao25, co25, eo25⟩ := Kd.R_slice HO_5.out
   subst eo25
   first
   | have p405 : 0 ≤ (x6_2 : Int) := of_decide_eq_true mc81
     have q405 : x6_2 < (t393.length : Int) := of_decide_eq_true mc81
     obtain ⟨ad405, e405, hx405_0⟩ := Kd.at_string (Kd.R_reads' HO_5.out).2.2 x6_2 p405 q405
     cases e405
     replace p405 := eq_true p405
     replace q405 := eq_true q405
     go_wp2_with (first | ((with_reducible refine gc_ 44 rfl ?_); refine goesL_ (some 45) rfl rfl Tryz.func44 kr_ rfl #[.string (rdOf ByteArray.empty t393 x6_2), .string (⟨#[32]⟩ : ByteArray)] rfl mc47 ?_; (with_reducible refine (spec_l16Cut.calls k2 (rdOf ByteArray.empty t393 x6_2) (⟨#[32]⟩ : ByteArray) _ _ _ _ A16.out).mono ?_); rintro e w' ⟨rfl, ⟨nd, rfl⟩⟩; refine ⟨_, rfl, ?_⟩) | ((with_reducible refine gc_ 44 rfl ?_); refine goesL_ (some 51) rfl rfl Tryz.func44 kr_ rfl #[.string t407, .string (⟨#[32]⟩ : ByteArray)] rfl mc47 ?_; (with_reducible refine (spec_l16Cut.calls k2 t407 (⟨#[32]⟩ : ByteArray) _ _ _ _ A17.out).mono ?_); rintro e w' ⟨rfl, ⟨nd, rfl⟩⟩; refine ⟨_, rfl, ?_⟩) | ((with_reducible refine gc_ 45 rfl ?_); refine goesL_ (some 57) rfl rfl Tryz.func45 kr_ rfl #[.string t409] rfl mc47 ?_; (with_reducible refine (spec_l1Read.calls k2 t409 _ _ _ A18.out).mono ?_); rintro e w' ⟨rfl, ⟨nd, rfl⟩⟩; refine ⟨_, rfl, ?_⟩) | ((with_reducible refine gd_ 70 rfl ?_); (try (refine gate_guard (by rfl) ?_; dsimp only)); refine Kd.R_lit k26 _ 26 ?hg (N := 70) ?hd (xs := ([] : List (S26))) (inner := []) (ok := fun _ => True) (okp := fun _ => True) ?hr ?hp (fun _ hk => hk) trivial (Below.refl _ _) (Nat.le_refl _) (by simp) ?_; (case hd => rfl); (case hg => rfl); (case hr => exact mc83); (case hp => exact (Reps.none _ _)); intro v418 w26 ho27 hb hg_ hnew_; clear hg_ hnew_; (first | rw [← Ny417.out] at ho27 | (simp only [Int.reduceToNat] at ho27; rw [← Ny417.out] at ho27)); replace HO_5 := A_ (Kd.R_below mc73 hb); have HO419 := A_ (Kd.R_lower (Kd.R_new' ho27 (Kd.R_lt mc74)) (below_size mc53)); replace HO_4 := A_ (Kd.R_elder' mc74 (Kd.R_base ho27) hb); replace HB := A_ (below_step mc53 hb); clear hb ho27) | ((with_reducible refine gd_ 70 rfl ?_); (try (refine gate_guard (by rfl) ?_; dsimp only)); refine Kd.R_lit k26 _ 26 ?hg (N := 70) ?hd (xs := ([] : List (S26))) (inner := []) (ok := fun _ => True) (okp := fun _ => True) ?hr ?hp (fun _ hk => hk) trivial (Below.refl _ _) (Nat.le_refl _) (by simp) ?_; (case hd => rfl); (case hg => rfl); (case hr => exact mc83); (case hp => exact (Reps.none _ _)); intro v421 w29 ho30 hb hg_ hnew_; clear hg_ hnew_; (first | rw [← Ny420.out] at ho30 | (simp only [Int.reduceToNat] at ho30; rw [← Ny420.out] at ho30)); have n0_ := A_ (Kd.R_elder' mc74 (Kd.R_base ho30) hb); have n1_ := A_ (Kd.R_below mc73 hb); have n2_ := A_ (Kd.R_lower (Kd.R_new' ho30 (Kd.R_lt mc74)) (below_size mc53)); have n3_b8 := A_ (below_step mc53 hb); clear HO_4; clear HO_5; clear HB; have HO_4 := n0_; have HO_5 := n1_; have HO422 := n2_; have HB := n3_b8; clear n0_ n1_ n2_ n3_b8; clear hb ho30) | ((with_reducible refine gd_ 70 rfl ?_); (try (refine gate_guard (by rfl) ?_; dsimp only)); refine Kd.R_lit k26 _ 26 ?hg (N := 70) ?hd (xs := ([] : List (S26))) (inner := []) (ok := fun _ => True) (okp := fun _ => True) ?hr ?hp (fun _ hk => hk) trivial (Below.refl _ _) (Nat.le_refl _) (by simp) ?_; (case hd => rfl); (case hg => rfl); (case hr => exact mc83); (case hp => exact (Reps.none _ _)); intro v424 w32 ho33 hb hg_ hnew_; clear hg_ hnew_; (first | rw [← Ny423.out] at ho33 | (simp only [Int.reduceToNat] at ho33; rw [← Ny423.out] at ho33)); have n0_ := A_ (Kd.R_elder' mc74 (Kd.R_base ho33) hb); have n1_ := A_ (Kd.R_below mc73 hb); have n2_ := A_ (Kd.R_lower (Kd.R_new' ho33 (Kd.R_lt mc74)) (below_size mc53)); have n3_b9 := A_ (below_step mc53 hb); clear HO_4; clear HO_5; clear HB; have HO_4 := n0_; have HO_5 := n1_; have HO425 := n2_; have HB := n3_b9; clear n0_ n1_ n2_ n3_b9; clear hb ho33))
     go_ret2
     first
     | exact ⟨_, mc76, by (with_reducible repeat (first | apply Kd.R_alloc | apply Kd.R_drewN | apply Kd.R_drew)); exact Kd.R_mono HO419.out (fun _ hk => trivial), mc53⟩
     | exact ⟨_, mc76, by (with_reducible repeat (first | apply Kd.R_alloc | apply Kd.R_drewN | apply Kd.R_drew)); exact Kd.R_mono HO422.out (fun _ hk => trivial), mc53⟩
     | exact ⟨_, mc76, by (with_reducible repeat (first | apply Kd.R_alloc | apply Kd.R_drewN | apply Kd.R_drew)); exact Kd.R_mono HO425.out (fun _ hk => trivial), mc53⟩
   | obtain ⟨Ao38, co38, eo38⟩ := Kd.R_slice HO_4.out
     subst eo38
     go_wp2_with (first | ((with_reducible refine gc_ 15 rfl ?_); refine goesL_ (some 80) rfl rfl Tryz.func15 kr_ rfl #[.slice Ao38 x4_2.length co38] rfl mc47 ?_; (with_reducible refine (spec_ArchiveText.calls k2 _ _ x4_2 _ _ _ ?side1 ?side2 A34.out).mono ?_); (case side1 => repeat (first | exact (Kd.R_reads' HO_4.out).2.2 | (with_reducible refine Kd.C_alloc ?_ _) | (with_reducible refine Kd.C_drewN ?_ _) | (with_reducible refine Kd.C_drew ?_))); (case side2 => exact (Kd.R_reads' HO_4.out).2.1); rintro e w39 ⟨rfl, hb⟩; refine ⟨_, rfl, ?_⟩; replace HO_4 := A_ (Kd.R_below mc74 hb); replace HO_5 := A_ (Kd.R_below mc73 hb); replace HB := A_ (below_step mc53 hb); (try clear hb)) | ((with_reducible refine gd_ 90 rfl ?_); (try (refine gate_guard (by rfl) ?_; dsimp only)); refine Kd.R_lit k26 _ 26 ?hg (N := 90) ?hd (xs := ([] : List (S26))) (inner := []) (ok := fun _ => True) (okp := fun _ => True) ?hr ?hp (fun _ hk => hk) trivial (Below.refl _ _) (Nat.le_refl _) (by simp) ?_; (case hd => rfl); (case hg => rfl); (case hr => exact mc83); (case hp => exact (Reps.none _ _)); intro v400 w43 ho44 hb hg_ hnew_; clear hg_ hnew_; (first | rw [← Ny399.out] at ho44 | (simp only [Int.reduceToNat] at ho44; rw [← Ny399.out] at ho44)); have n0_ := A_ (Kd.R_elder' mc74 (Kd.R_base ho44) hb); have n1_ := A_ (Kd.R_below mc73 hb); have n2_ := A_ (Kd.R_lower (Kd.R_new' ho44 (Kd.R_lt mc74)) (below_size mc53)); have n3_b10 := A_ (below_step mc53 hb); clear HO_4; clear HO_5; clear HB; have HO_4 := n0_; have HO_5 := n1_; have HO401 := n2_; have HB := n3_b10; clear n0_ n1_ n2_ n3_b10; clear hb ho44) | ((with_reducible refine gd_ 90 rfl ?_); (try (refine gate_guard (by rfl) ?_; dsimp only)); refine Kd.R_lit k26 _ 26 ?hg (N := 90) ?hd (xs := ([] : List (S26))) (inner := []) (ok := fun _ => True) (okp := fun _ => True) ?hr ?hp (fun _ hk => hk) trivial (Below.refl _ _) (Nat.le_refl _) (by simp) ?_; (case hd => rfl); (case hg => rfl); (case hr => exact mc83); (case hp => exact (Reps.none _ _)); intro v403 w48 ho49 hb hg_ hnew_; clear hg_ hnew_; (first | rw [← Ny402.out] at ho49 | (simp only [Int.reduceToNat] at ho49; rw [← Ny402.out] at ho49)); have n0_ := A_ (Kd.R_elder' mc74 (Kd.R_base ho49) hb); have n1_ := A_ (Kd.R_below mc73 hb); have n2_ := A_ (Kd.R_lower (Kd.R_new' ho49 (Kd.R_lt mc74)) (below_size mc53)); have n3_b11 := A_ (below_step mc53 hb); clear HO_4; clear HO_5; clear HB; have HO_4 := n0_; have HO_5 := n1_; have HO404 := n2_; have HB := n3_b11; clear n0_ n1_ n2_ n3_b11; clear hb ho49))
     go_ret2
     first
     | exact ⟨_, mc76, mc74, mc53⟩
     | exact ⟨_, mc76, by (with_reducible repeat (first | apply Kd.R_alloc | apply Kd.R_drewN | apply Kd.R_drew)); exact Kd.R_mono HO401.out (fun _ hk => trivial), mc53⟩
     | exact ⟨_, mc76, by (with_reducible repeat (first | apply Kd.R_alloc | apply Kd.R_drewN | apply Kd.R_drew)); exact Kd.R_mono HO404.out (fun _ hk => trivial), mc53⟩) : P := h
set_option maxHeartbeats 8000000 in
set_option maxRecDepth 100000 in
theorem spec_ParseArchive.calls (k : Nat) (a0 : ByteArray) (r1 : List (S26)) (r2 : Bool) (w : World) (h : spec_ParseArchive.f k a0 = some (r1, r2)) :
  Calls Tryz.prog 18 #[.string a0] w fun e w' => ∃ v0_ : Value, e = .returned (.tuple #[v0_, .bool r2]) ∧ Kd.R k26 26 w' w.heap.size (fun _ => True) v0_ r1 ∧ Below w.heap.size w w' := by
 have hu26 := Tryz.underlying26
 have HB := A_ (Below.refl w.heap.size w)
 have H : ((some (([] : List (S26)) : List (S26))).bind fun y390 => ((spec_l1Split.f k a0 10).bind fun t393 => (if (a0.size : Int) > 2000 then (spec_ParseArchive.j0 k a0 y390 t393 true) else (if 0 ≤ (wrap64 ((t393.length : Int) - 1)) then (if (wrap64 ((t393.length : Int) - 1)) < (t393.length : Int) then (spec_ParseArchive.j0 k a0 y390 t393 ((rdOf ByteArray.empty t393 (wrap64 ((t393.length : Int) - 1))).toList != ([] : List UInt8))) else (none)) else (none))))) = some (r1, r2) := h
 clear h
 obtain ⟨y390, hy390⟩ : ∃ y_ : List (S26), y_ = (([] : List (S26))) := ⟨_, rfl⟩
 replace H : ((spec_l1Split.f k a0 10).bind fun t393 => (if (a0.size : Int) > 2000 then (spec_ParseArchive.j0 k a0 y390 t393 true) else (if 0 ≤ (wrap64 ((t393.length : Int) - 1)) then (if (wrap64 ((t393.length : Int) - 1)) < (t393.length : Int) then (spec_ParseArchive.j0 k a0 y390 t393 ((rdOf ByteArray.empty t393 (wrap64 ((t393.length : Int) - 1))).toList != ([] : List UInt8))) else (none)) else (none)))) = some (r1, r2) := by first | (rw [hy390]; with_reducible exact H) | (have H2_ := (Option.bind_some _ _).symm.trans H; rw [hy390]; with_reducible exact H2_) | (have H2_ := (Option.bind_some _ _).symm.trans H; with_reducible exact H2_) | with_reducible exact H | (rw [hy390]; exact H) | exact H
 have Ny390 := A_ hy390
 clear hy390
 obtain ⟨t393, A20, H⟩ := oB_ H
 have A2 := A_ A20
 clear A20
 have HC3 := A_ H
 clear H
 go_enter Tryz.func18, Tryz.ntmps18
 go_upto_region 3 with (first | ((with_reducible refine gd_ 17 rfl ?_); (try (refine gate_guard (by rfl) ?_; dsimp only)); refine Kd.R_lit k26 _ 26 ?hg (N := 17) ?hd (xs := ([] : List (S26))) (inner := []) (ok := fun _ => True) (okp := fun _ => True) ?hr ?hp (fun _ hk => hk) trivial (Below.refl _ _) (Nat.le_refl _) (by simp) ?_; (case hd => rfl); (case hg => rfl); (case hr => exact mc83); (case hp => exact (Reps.none _ _)); intro v391 w4 ho5 hb hg_ hnew_; clear hg_ hnew_; (first | rw [← Ny390.out] at ho5 | (simp only [Int.reduceToNat] at ho5; rw [← Ny390.out] at ho5)); have HO392 := A_ (Kd.R_lower ho5 (below_size mc53)); replace HB := A_ (below_step mc53 hb); clear hb ho5) | ((with_reducible refine gc_ 43 rfl ?_); refine goesL_ (some 19) rfl rfl Tryz.func43 kr_ rfl #[.string a0, .int .u8 10] rfl mc47 ?_; (with_reducible refine (spec_l1Split.calls k a0 10 t393 _ A2.out).mono ?_); rintro e w6 ⟨v394, rfl, ho0, hb⟩; refine ⟨_, rfl, ?_⟩; replace HO392 := A_ (Kd.R_below (by (with_reducible repeat (first | apply Kd.R_alloc | apply Kd.R_drewN | apply Kd.R_drew)); exact HO392.out) hb); have HO395 := A_ (Kd.R_lower ho0 (below_size mc53)); replace HB := A_ (below_step mc53 hb); (try clear hb); (try clear ho0)))
 (try simp only [Act.put, List.setIfInBounds_toArray, List.set_cons_zero, List.set_cons_succ])
 go_cut [31] (fun v31 wc => ∃ (kq : Nat) (x31_2 : Bool), v31 = .bool x31_2 ∧ Aside0 (spec_ParseArchive.j0 kq a0 y390 t393 x31_2 = some (r1, r2)) ∧ Aside0 (kq ≤ k) ∧ Aside0 (Kd.R k26 26 wc w.heap.size (fun _ => True) v391 y390) ∧ Aside0 (Kd.R Kd.string 9 wc w.heap.size (fun _ => True) v394 t393) ∧ Aside0 (Below w.heap.size w wc))
 case first =>
  have H := HC3.out
  clear HC3
  by_cases c7 : (a0.size : Int) > 2000
  ·
   rw [if_pos c7] at H
   have c7b0 : decide (2000 < (a0.size : Int)) = true := decide_eq_true c7
   have c7b1 : decide (2000 < a0.size) = true := decide_eq_true (by omega)
   clear c7
   (first | rw [c7b0] | (simp only [i64_w, i32_w]; rw [c7b0]) | skip)
   have H' := A_ H
   clear H
   go_wp2
   go_meet
   case rel => exact ⟨_, (true), mc82, H', ⟨mc85⟩, ⟨by (with_reducible repeat (first | apply Kd.R_alloc | apply Kd.R_drewN | apply Kd.R_drew)); exact HO392.out⟩, ⟨by (with_reducible repeat (first | apply Kd.R_alloc | apply Kd.R_drewN | apply Kd.R_drew)); exact HO395.out⟩, ⟨mc53⟩⟩
  ·
   rw [if_neg c7] at H
   have c7b0 : decide (2000 < (a0.size : Int)) = false := decide_eq_false c7
   have c7b1 : decide (2000 < a0.size) = false := decide_eq_false (by omega)
   clear c7
   (first | rw [c7b0] | (simp only [i64_w, i32_w]; rw [c7b0]) | skip)
   obtain ⟨ji8, hji8⟩ : ∃ j_ : Int, (wrap64 ((t393.length : Int) - 1)) = j_ := ⟨_, rfl⟩
   replace H : (if 0 ≤ (ji8) then (if (ji8) < (t393.length : Int) then (spec_ParseArchive.j0 k a0 y390 t393 ((rdOf ByteArray.empty t393 (ji8)).toList != ([] : List UInt8))) else (none)) else (none)) = some (r1, r2) := by first | (rw [hji8] at H; exact H) | (simp only [hji8] at H ⊢; exact H)
   have hji8w : (IntKind.i64.wrap ((t393.length : Int) - 1)) = ji8 := (i64_w _).trans hji8
   by_cases c9 : 0 ≤ (ji8)
   ·
    rw [if_pos c9] at H
    have c9b0 : decide (0 ≤ (ji8)) = true := decide_eq_true c9
    clear c9
    by_cases c10 : (ji8) < (t393.length : Int)
    ·
     rw [if_pos c10] at H
     have c10b0 : decide ((ji8) < (t393.length : Int)) = true := decide_eq_true c10
     clear c10
     have H' := A_ H
     clear H
     obtain ⟨Ao11, co11, eo11⟩ := Kd.R_slice HO395.out
     subst eo11
     have p396 : 0 ≤ ((ji8) : Int) := of_decide_eq_true mc81
     have q396 : (ji8) < (t393.length : Int) := of_decide_eq_true mc81
     obtain ⟨ad396, e396, hx396_0⟩ := Kd.at_string (Kd.R_reads' HO395.out).2.2 (ji8) p396 q396
     cases e396
     replace p396 := eq_true p396
     replace q396 := eq_true q396
     go_wp2
     go_meet
     case rel => exact ⟨_, (((rdOf ByteArray.empty t393 (ji8)).toList != ([] : List UInt8))), (by first | rfl | (simp; done) | (simp only [← hji8] <;> (first | rfl | (simp; done) | (simp; exact (fun L_ : List UInt8 => by cases L_ <;> rfl : ∀ L_ : List UInt8, L_.isEmpty = !(L_ != [])) _))) | (simp [*]; done)), H', ⟨mc85⟩, ⟨by (with_reducible repeat (first | apply Kd.R_alloc | apply Kd.R_drewN | apply Kd.R_drew)); exact HO392.out⟩, ⟨by (with_reducible repeat (first | apply Kd.R_alloc | apply Kd.R_drewN | apply Kd.R_drew)); exact HO395.out⟩, ⟨mc53⟩⟩
    ·
     rw [if_neg c10] at H
     exact absurd H (by simp)
   ·
    rw [if_neg c9] at H
    exact absurd H (by simp)
 case rest =>
  clear HC3
  try clear p2
  try clear p3
  try clear q3
  try clear hx3
  try clear p6
  try clear c7b0
  try clear c7b1
  try clear c9b0
  try clear c10b0
  try clear hx396_0
  try clear p396
  try clear q396
  obtain ⟨kq, x31_2, rfl, HA, HJ2, HO_4, HO_5, HB⟩ := hcut
  cases kq with
  | zero => exact absurd HA.out (by simp [spec_ParseArchive.j0])
  | succ kj2 =>
   have H := HA.out
   clear HA
   simp only [spec_ParseArchive.j0] at H
   by_cases c12 : x31_2 = true
   ·
    subst c12
    rw [if_pos rfl] at H
    exact spec_ParseArchive.calls.L1
   ·
    replace c12 := Bool.eq_false_iff.mpr c12
    subst c12
    rw [if_neg (show ¬ (false = true) by decide)] at H
    have H' := A_ H
    clear H
    go_wp2
    go_loopg [4, 6] kj2 (fun kq v4 v6 w' => ∃ (x4_2 : List (S26)) (x6_2 : Int), v6 = .int .i64 x6_2 ∧ Aside0 (spec_ParseArchive.l0 kq a0 x4_2 t393 x6_2 = some (r1, r2)) ∧ Aside0 (kq ≤ kj2) ∧ Aside0 (Kd.R k26 26 w' w.heap.size (fun _ => True) v4 x4_2) ∧ Aside0 (Kd.R Kd.string 9 w' w.heap.size (fun _ => True) v394 t393) ∧ Aside0 (Below w.heap.size w w'))
    case atStart => exact ⟨(y390), (0), mc82, H', ⟨Nat.le_refl _⟩, ⟨mc74⟩, ⟨mc73⟩, ⟨mc53⟩⟩
    case round =>
     clear H'
     try clear p2
     try clear p3
     try clear q3
     try clear hx3
     try clear p6
     try clear c7b0
     try clear c7b1
     try clear c9b0
     try clear c10b0
     try clear hx396_0
     try clear p2
     try clear p3
     try clear p396
     try clear p6
     try clear q3
     try clear q396
     obtain ⟨x4_2, x6_2, rfl, HA, HK2, HO_4, HO_5, HB⟩ := hrel
     cases gk with
     | zero => exact absurd HA.out (by simp [spec_ParseArchive.l0])
     | succ k2 =>
      have H := HA.out
      clear HA
      simp only [spec_ParseArchive.l0] at H
      by_cases c13 : x6_2 < (wrap64 ((t393.length : Int) - 1))
      ·
       rw [if_pos c13] at H
       have c13b0 : decide (x6_2 < (wrap64 ((t393.length : Int) - 1))) = true := decide_eq_true c13
       clear c13
       by_cases c14 : 0 ≤ x6_2
       ·
        rw [if_pos c14] at H
        have c14b0 : decide (0 ≤ x6_2) = true := decide_eq_true c14
        clear c14
        by_cases c15 : x6_2 < (t393.length : Int)
        ·
         rw [if_pos c15] at H
         have c15b0 : decide (x6_2 < (t393.length : Int)) = true := decide_eq_true c15
         clear c15
         obtain ⟨⟨t406, t407, t408⟩, A160, H⟩ := oB_ H
         have A16 := A_ A160
         clear A160
         obtain ⟨⟨t409, t410, t411⟩, A170, H⟩ := oB_ H
         have A17 := A_ A170
         clear A170
         obtain ⟨⟨t412, t413⟩, A180, H⟩ := oB_ H
         have A18 := A_ A180
         clear A180
         by_cases c19 : t408 = true
         ·
          subst c19
          rw [if_pos rfl] at H
          by_cases c20 : t411 = true
          ·
           subst c20
           rw [if_pos rfl] at H
           by_cases c21 : t413 = true
           ·
            subst c21
            rw [if_pos rfl] at H
            by_cases c22 : x4_2.length < 3518437208883
            ·
             rw [if_pos c22] at H
             have LMc22 := A_ c22
             clear c22
             obtain ⟨y414, hy414⟩ : ∃ y_ : List (S26), y_ = (x4_2 ++ [(⟨t406, t412, t410⟩ : S26)]) := ⟨_, rfl⟩
             replace H : (spec_ParseArchive.l0 k2 a0 y414 t393 (wrap64 (x6_2 + 1))) = some (r1, r2) := by first | (rw [hy414]; with_reducible exact H) | (have H2_ := (Option.bind_some _ _).symm.trans H; rw [hy414]; with_reducible exact H2_) | (have H2_ := (Option.bind_some _ _).symm.trans H; with_reducible exact H2_) | with_reducible exact H | (rw [hy414]; exact H) | exact H
             have Ny414 := A_ hy414
             clear hy414
             have H' := A_ H
             clear H
             obtain ⟨Ao23, co23, eo23⟩ := Kd.R_slice HO_5.out
             subst eo23
             have p405 : 0 ≤ (x6_2 : Int) := of_decide_eq_true mc81
             have q405 : x6_2 < (t393.length : Int) := of_decide_eq_true mc81
             obtain ⟨ad405, e405, hx405_0⟩ := Kd.at_string (Kd.R_reads' HO_5.out).2.2 x6_2 p405 q405
             cases e405
             replace p405 := eq_true p405
             replace q405 := eq_true q405
             go_wp2_with (first | ((with_reducible refine gc_ 44 rfl ?_); refine goesL_ (some 45) rfl rfl Tryz.func44 kr_ rfl #[.string (rdOf ByteArray.empty t393 x6_2), .string (⟨#[32]⟩ : ByteArray)] rfl mc47 ?_; (with_reducible refine (spec_l16Cut.calls k2 (rdOf ByteArray.empty t393 x6_2) (⟨#[32]⟩ : ByteArray) t406 t407 true _ A16.out).mono ?_); rintro e w' ⟨rfl, ⟨nd, rfl⟩⟩; refine ⟨_, rfl, ?_⟩) | ((with_reducible refine gc_ 44 rfl ?_); refine goesL_ (some 51) rfl rfl Tryz.func44 kr_ rfl #[.string t407, .string (⟨#[32]⟩ : ByteArray)] rfl mc47 ?_; (with_reducible refine (spec_l16Cut.calls k2 t407 (⟨#[32]⟩ : ByteArray) t409 t410 true _ A17.out).mono ?_); rintro e w' ⟨rfl, ⟨nd, rfl⟩⟩; refine ⟨_, rfl, ?_⟩) | ((with_reducible refine gc_ 45 rfl ?_); refine goesL_ (some 57) rfl rfl Tryz.func45 kr_ rfl #[.string t409] rfl mc47 ?_; (with_reducible refine (spec_l1Read.calls k2 t409 t412 true _ A18.out).mono ?_); rintro e w' ⟨rfl, ⟨nd, rfl⟩⟩; refine ⟨_, rfl, ?_⟩) | ((with_reducible refine gate_builtin (b := .append) (xs := #[.tmp 71, .tmp 76]) rfl ?_); (try (refine gate_guard (by rfl) ?_; dsimp only)); at_builtin; refine Kd.R_append k26 (w0 := w) w.heap.size rfl (.tmp 71) (.tmp 76) 24 26 (.agg #[(.string ⟨#[]⟩), (.int .i64 0), (.string ⟨#[]⟩)]) 40 rfl Tryz.underlying24 info26 rfl (by decide) (by omega) u4 x4_2 (⟨t406, t412, t410⟩ : S26) [.string t406, .int .i64 t412, .string t410] (fun _ => True) (fun _ => False) rfl rfl ?aP (fun _ hk => hk.elim) ?aF ?aO ?aB ?aS ?aL ?_; (case aP => exact k26_mkM _ _ _ (⟨t406, t412, t410⟩ : S26)); (case aB => exact mc53); (case aF => exact (fun _ _ => trivial)); (case aO => exact mc74); (case aS => exact (below_size mc53)); (case aL => have := LMc22.out; omega); intro v415 w24 ho hb hg hat; rw [← Ny414.out] at ho; replace HO_5 := A_ (Kd.R_over' mc73 (Kd.R_typed mc74) (by decide) hg); replace HB := A_ (hb); have HO416 := A_ (ho); clear HO_4; clear ho hb hg hat))
             go_roundg k2
             case measure => have := HJ2.out; have := HK2.out; omega
             case rel => exact ⟨(y414), (wrap64 (x6_2 + 1)), mc82, H', ⟨by have := HJ2.out; have := HK2.out; omega⟩, ⟨by (with_reducible repeat (first | apply Kd.R_alloc | apply Kd.R_drewN | apply Kd.R_drew)); exact HO416.out⟩, ⟨mc73⟩, ⟨mc53⟩⟩
            ·
             rw [if_neg c22] at H
             exact absurd H (by simp)
           ·
            replace c21 := Bool.eq_false_iff.mpr c21
            subst c21
            rw [if_neg (show ¬ (false = true) by decide)] at H
            obtain ⟨y417, hy417⟩ : ∃ y_ : List (S26), y_ = (([] : List (S26))) := ⟨_, rfl⟩
            replace H : (some (y417, false)) = some (r1, r2) := by first | (rw [hy417]; with_reducible exact H) | (have H2_ := (Option.bind_some _ _).symm.trans H; rw [hy417]; with_reducible exact H2_) | (have H2_ := (Option.bind_some _ _).symm.trans H; with_reducible exact H2_) | with_reducible exact H | (rw [hy417]; exact H) | exact H
            have Ny417 := A_ hy417
            clear hy417
            exact spec_ParseArchive.calls.L1
          ·
           replace c20 := Bool.eq_false_iff.mpr c20
           subst c20
           rw [if_neg (show ¬ (false = true) by decide)] at H
           obtain ⟨y420, hy420⟩ : ∃ y_ : List (S26), y_ = (([] : List (S26))) := ⟨_, rfl⟩
           replace H : (some (y420, false)) = some (r1, r2) := by first | (rw [hy420]; with_reducible exact H) | (have H2_ := (Option.bind_some _ _).symm.trans H; rw [hy420]; with_reducible exact H2_) | (have H2_ := (Option.bind_some _ _).symm.trans H; with_reducible exact H2_) | with_reducible exact H | (rw [hy420]; exact H) | exact H
           have Ny420 := A_ hy420
           clear hy420
           exact spec_ParseArchive.calls.L1
         ·
          replace c19 := Bool.eq_false_iff.mpr c19
          subst c19
          rw [if_neg (show ¬ (false = true) by decide)] at H
          obtain ⟨y423, hy423⟩ : ∃ y_ : List (S26), y_ = (([] : List (S26))) := ⟨_, rfl⟩
          replace H : (some (y423, false)) = some (r1, r2) := by first | (rw [hy423]; with_reducible exact H) | (have H2_ := (Option.bind_some _ _).symm.trans H; rw [hy423]; with_reducible exact H2_) | (have H2_ := (Option.bind_some _ _).symm.trans H; with_reducible exact H2_) | with_reducible exact H | (rw [hy423]; exact H) | exact H
          have Ny423 := A_ hy423
          clear hy423
          exact spec_ParseArchive.calls.L1
        ·
         rw [if_neg c15] at H
         exact absurd H (by simp)
       ·
        rw [if_neg c14] at H
        exact absurd H (by simp)
      ·
       rw [if_neg c13] at H
       have c13b0 : decide (x6_2 < (wrap64 ((t393.length : Int) - 1))) = false := decide_eq_false c13
       clear c13
       obtain ⟨⟨t397, t398⟩, A340, H⟩ := oB_ H
       have A34 := A_ A340
       clear A340
       by_cases c35 : t398 = true
       ·
        subst c35
        rw [if_pos rfl] at H
        by_cases c36 : t397.toList = a0.toList
        ·
         rw [if_pos c36] at H
         have c36b0 : (t397.toList == a0.toList) = true := beq_iff_eq.mpr c36
         have c36b1 : (t397.toList != a0.toList) = false := bne_eq_false_iff_eq.mpr c36
         clear c36
         exact spec_ParseArchive.calls.L1
        ·
         rw [if_neg c36] at H
         have c36b0 : (t397.toList == a0.toList) = false := beq_eq_false_iff_ne.mpr c36
         have c36b1 : (t397.toList != a0.toList) = true := bne_iff_ne.mpr c36
         obtain ⟨y399, hy399⟩ : ∃ y_ : List (S26), y_ = (([] : List (S26))) := ⟨_, rfl⟩
         replace H : (some (y399, false)) = some (r1, r2) := by first | (rw [hy399]; with_reducible exact H) | (have H2_ := (Option.bind_some _ _).symm.trans H; rw [hy399]; with_reducible exact H2_) | (have H2_ := (Option.bind_some _ _).symm.trans H; with_reducible exact H2_) | with_reducible exact H | (rw [hy399]; exact H) | exact H
         have Ny399 := A_ hy399
         clear hy399
         exact spec_ParseArchive.calls.L1
       ·
        replace c35 := Bool.eq_false_iff.mpr c35
        subst c35
        rw [if_neg (show ¬ (false = true) by decide)] at H
        obtain ⟨y402, hy402⟩ : ∃ y_ : List (S26), y_ = (([] : List (S26))) := ⟨_, rfl⟩
        replace H : (some (y402, false)) = some (r1, r2) := by first | (rw [hy402]; with_reducible exact H) | (have H2_ := (Option.bind_some _ _).symm.trans H; rw [hy402]; with_reducible exact H2_) | (have H2_ := (Option.bind_some _ _).symm.trans H; with_reducible exact H2_) | with_reducible exact H | (rw [hy402]; exact H) | exact H
        have Ny402 := A_ hy402
        clear hy402
        exact spec_ParseArchive.calls.L1
/-! ### spec_DrawVersionsOf: function 19 -/
def spec_DrawVersionsOf.f (k : Nat) (l0 : List Int) : Option ((List (S26)) × ByteArray) := (mk_l1Cur.f l0).bind fun bt426 => ((spec_l1Cur_archive.f k bt426.1 bt426.2.1 bt426.2.2).bind fun bt430 => ((spec_l1Cur_name26.f bt426.1 bt430.2.1 bt430.2.2).bind fun bt435 => (some (bt430.1, bt435.1))))
set_option maxHeartbeats 8000000 in
set_option maxRecDepth 100000 in
theorem spec_DrawVersionsOf.calls (k : Nat) (A0 : Option Addr) (c0 : Nat) (l0 : List Int) (r1 : List (S26)) (r2 : ByteArray) (w : World) (hr0 : Kd.C (Kd.int .u8) w A0 l0.length l0) (hc0 : l0.length ≤ c0) (h : spec_DrawVersionsOf.f k l0 = some (r1, r2)) :
  Calls Tryz.prog 19 #[.slice A0 l0.length c0] w fun e w' => ∃ v0_ : Value, e = .returned (.tuple #[v0_, .string r2]) ∧ Kd.R k26 26 w' w.heap.size (fun _ => True) v0_ r1 ∧ Below w.heap.size w w' := by
 have HR0 := A_ hr0
 have HC0 := A_ hc0
 clear hr0 hc0
 have HB := A_ (Below.refl w.heap.size w)
 have H : ((mk_l1Cur.f l0).bind fun bt426 => ((spec_l1Cur_archive.f k bt426.1 bt426.2.1 bt426.2.2).bind fun bt430 => ((spec_l1Cur_name26.f bt426.1 bt430.2.1 bt430.2.2).bind fun bt435 => (some (bt430.1, bt435.1))))) = some (r1, r2) := h
 clear h
 obtain ⟨⟨t426, t427, t428⟩, A20, H⟩ := oB_ H
 have A2 := A_ A20
 clear A20
 obtain ⟨⟨t430, t433, t434⟩, A30, H⟩ := oB_ H
 have A3 := A_ A30
 clear A30
 obtain ⟨⟨t435, t436, t437⟩, A40, H⟩ := oB_ H
 have A4 := A_ A40
 clear A40
 simp only [Option.some.injEq, Prod.mk.injEq] at H
 obtain ⟨rfl, rfl⟩ := H
 go_enter Tryz.func19, Tryz.ntmps19
 go_wp2_with (first | ((with_reducible refine gd_ 8 rfl ?_); refine mk_l1Cur.box A0 c0 l0 t426 t427 t428 w A2.out ?side8 ?side9 ?side1 ?side2 ?side3 ?_; (case side8 => rfl); (case side1 => exact mc53); (case side2 => exact HR0.out); (case side3 => exact HC0.out); (case side9 => exact mc83); intro g429 w5 hi hb hb2; replace HB := A_ (hb); have HI429 := A_ (hi); (try clear hb)) | ((with_reducible refine gc_ 22 rfl ?_); refine goesL_ (some 10) rfl rfl Tryz.func22 kr_ rfl #[.pointer (some ⟨g429, 0, none⟩)] rfl mc47 ?_; (with_reducible refine (spec_l1Cur_archive.calls k g429 t426 t427 t428 t430 t433 t434 w _ ?side1 ?side2 A3.out).mono ?_); (case side1 => repeat (first | (with_reducible first | exact HI429.out | apply IsS50.alloc | apply IsS50.drewN | apply IsS50.drew | apply IsS50.set_1 | apply IsS50.set_2) | exact HI429.out)); (case side2 => repeat (first | (with_reducible first | exact HB.out | apply below_alloc | apply pw_below_drewN | apply below_drew1 | refine below_set ?_ (IsS50.ge HI429.out)) | exact HB.out)); rintro e w6 ⟨v431, rfl, ho0, hi, hb, hk⟩; refine ⟨_, rfl, ?_⟩; have HO432 := A_ (Kd.R_lower ho0 (below_size (by repeat (first | (with_reducible first | exact HB.out | apply below_alloc | apply pw_below_drewN | apply below_drew1 | refine below_set ?_ (IsS50.ge HI429.out)) | exact HB.out)))); replace HB := A_ (hb); replace HI429 := A_ (hi); (try clear hb); (try clear ho0)) | ((with_reducible refine gc_ 46 rfl ?_); refine goesL_ (some 13) rfl rfl Tryz.func46 kr_ rfl #[.pointer (some ⟨g429, 0, none⟩)] rfl mc47 ?_; (with_reducible refine (spec_l1Cur_name26.calls g429 t426 t433 t434 t435 t436 t437 w _ ?side1 ?side2 A4.out).mono ?_); (case side1 => repeat (first | (with_reducible first | exact HI429.out | apply IsS50.alloc | apply IsS50.drewN | apply IsS50.drew | apply IsS50.set_1 | apply IsS50.set_2) | exact HI429.out)); (case side2 => repeat (first | (with_reducible first | exact HB.out | apply below_alloc | apply pw_below_drewN | apply below_drew1 | refine below_set ?_ (IsS50.ge HI429.out)) | exact HB.out)); rintro e w7 ⟨rfl, hi, hb, hk⟩; refine ⟨_, rfl, ?_⟩; replace HO432 := A_ (Kd.R_mono (Kd.R_keep (IsS50.apart (show IsS50 w _ g429 t426 t433 t434 from by repeat (first | (with_reducible first | exact HI429.out | apply IsS50.alloc | apply IsS50.drewN | apply IsS50.drew | apply IsS50.set_1 | apply IsS50.set_2) | exact HI429.out)) (by (with_reducible repeat (first | apply Kd.R_alloc | apply Kd.R_drewN | apply Kd.R_drew)); exact HO432.out) (by decide)) hk (fun _ h => h.2)) (fun _ h => h.1)); replace HB := A_ (hb); replace HI429 := A_ (hi); (try clear hb)))
 go_ret2
 exact ⟨_, mc76, by (with_reducible repeat (first | apply Kd.R_alloc | apply Kd.R_drewN | apply Kd.R_drew)); exact HO432.out, by repeat (first | (with_reducible first | exact HB.out | apply below_alloc | apply pw_below_drewN | apply below_drew1 | refine below_set ?_ (IsS50.ge HI429.out)) | exact HB.out)⟩

end Go.Proofs.YtgmmanppmjlclaaGreatDoor.P
