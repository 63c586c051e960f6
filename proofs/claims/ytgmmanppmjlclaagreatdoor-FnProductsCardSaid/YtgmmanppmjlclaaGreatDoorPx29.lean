-- Made by pp.py of this session out of the kit's print and of contracts proved by hand; Lean checks it.
import Derived.Test.YtgmmanppmjlclaaGreatDoorMc
import Derived.Test.YtgmmanppmjlclaaGreatDoorPx0
import Derived.Test.YtgmmanppmjlclaaGreatDoorPx6
import Derived.Test.YtgmmanppmjlclaaGreatDoorPx7
import Derived.Test.YtgmmanppmjlclaaGreatDoorPx8
import Derived.Test.YtgmmanppmjlclaaGreatDoorPx23
namespace Go.Proofs.YtgmmanppmjlclaaGreatDoor.P
open Go.RowKit Go.Proofs.YtgmmanppmjlclaaGreatDoorW.PrintWords Go.Proofs.YtgmmanppmjlclaaGreatDoorW.PrintLast Go.Proofs.YtgmmanppmjlclaaGreatDoorW.PrintMore
attribute [local go_sem] max2_int min2_int max_two min_two max_three min_three max_four min_four   -- for this text's walks alone
set_option linter.unusedVariables false
set_option linter.unusedSimpArgs false

/-! ### spec_l1Cur_spoilt: function 42 -/
def spec_l1Cur_spoilt.f (s0_0 : List Int) (s0_1 : Int) (s0_2 : Int) (a1 : ByteArray) (a2 : ByteArray) : Option (ByteArray × Int × Int) := if a1.toList = ([] : List UInt8) then (if 0 ≤ 1 then (if 1 ≤ (a2.size : Int) then (some (a2.extract 0 1, s0_1, s0_2)) else (none)) else (none)) else ((spec_l1Cur_pick.f s0_0 s0_1 s0_2 (a1.size : Int)).bind fun bt352 => ((spec_l1Cur_pick.f s0_0 bt352.2.1 bt352.2.2 (a2.size : Int)).bind fun bt355 => (if 0 ≤ bt355.1 then (if bt355.1 ≤ (a2.size : Int) then (if 0 ≤ 1 then (if 1 ≤ ((a2.extract (bt355.1 : Int).toNat a2.size).size : Int) then ((spec_l1Cur_pick.f s0_0 bt355.2.1 bt355.2.2 3).bind fun bt358 => (if bt358.1 = 0 then (if 0 ≤ bt352.1 then (if bt352.1 ≤ (a1.size : Int) then (if (a1.extract 0 (bt352.1 : Int).toNat).size + ((a2.extract (bt355.1 : Int).toNat a2.size).extract 0 1).size ≤ 9223372036854775807 then (if ((a1.extract 0 (bt352.1 : Int).toNat) ++ ((a2.extract (bt355.1 : Int).toNat a2.size).extract 0 1)).size + (a1.extract (bt352.1 : Int).toNat a1.size).size ≤ 9223372036854775807 then (some (((a1.extract 0 (bt352.1 : Int).toNat) ++ ((a2.extract (bt355.1 : Int).toNat a2.size).extract 0 1)) ++ (a1.extract (bt352.1 : Int).toNat a1.size), bt358.2.1, bt358.2.2)) else (none)) else (none)) else (none)) else (none)) else (if bt358.1 = 1 then (if 0 ≤ bt352.1 then (if bt352.1 ≤ (a1.size : Int) then (if (a1.extract 0 (bt352.1 : Int).toNat).size + ((a2.extract (bt355.1 : Int).toNat a2.size).extract 0 1).size ≤ 9223372036854775807 then (if 0 ≤ (wrap64 (bt352.1 + 1)) then (if (wrap64 (bt352.1 + 1)) ≤ (a1.size : Int) then (if ((a1.extract 0 (bt352.1 : Int).toNat) ++ ((a2.extract (bt355.1 : Int).toNat a2.size).extract 0 1)).size + (a1.extract ((wrap64 (bt352.1 + 1)) : Int).toNat a1.size).size ≤ 9223372036854775807 then (some (((a1.extract 0 (bt352.1 : Int).toNat) ++ ((a2.extract (bt355.1 : Int).toNat a2.size).extract 0 1)) ++ (a1.extract ((wrap64 (bt352.1 + 1)) : Int).toNat a1.size), bt358.2.1, bt358.2.2)) else (none)) else (none)) else (none)) else (none)) else (none)) else (none)) else (if 0 ≤ bt352.1 then (if bt352.1 ≤ (a1.size : Int) then (if 0 ≤ (wrap64 (bt352.1 + 1)) then (if (wrap64 (bt352.1 + 1)) ≤ (a1.size : Int) then (if (a1.extract 0 (bt352.1 : Int).toNat).size + (a1.extract ((wrap64 (bt352.1 + 1)) : Int).toNat a1.size).size ≤ 9223372036854775807 then (some ((a1.extract 0 (bt352.1 : Int).toNat) ++ (a1.extract ((wrap64 (bt352.1 + 1)) : Int).toNat a1.size), bt358.2.1, bt358.2.2)) else (none)) else (none)) else (none)) else (none)) else (none))))) else (none)) else (none)) else (none)) else (none))))
set_option maxRecDepth 100000 in
theorem spec_l1Cur_spoilt.calls.L1 {P : Prop} (h : P := by
 simp only [Option.some.injEq, Prod.mk.injEq] at H
 obtain ⟨rfl, rfl, rfl⟩ := H
 go_enter Tryz.func42, Tryz.ntmps42
 first
 | go_wp2
   repeat (go_quiet (fail); try go_wp2)
   go_ret
   exact ⟨mc76, mc33, mc30, mc44⟩
 | go_wp2_with (first | (go_at_call 48; (with_reducible refine (spec_l1Cur_pick.calls g s0_0 s0_1 s0_2 (a1.size : Int) _ _ _ w0 _ ?side1 ?side2 A7.out).mono ?_); (case side1 => exact mc33); (case side2 => exact mc30); rintro e w21 ⟨rfl, hi, hb, hk⟩; replace HK := A_ (KeepBut.trans mc44 hk (.inl rfl)); replace HB := A_ (hb); replace HI0 := A_ (hi); (try clear hb)) | (go_at_call 48; (with_reducible refine (spec_l1Cur_pick.calls g s0_0 t353 t354 (a2.size : Int) _ _ _ w0 _ ?side1 ?side2 A8.out).mono ?_); (case side1 => exact mc33); (case side2 => exact mc30); rintro e w22 ⟨rfl, hi, hb, hk⟩; replace HK := A_ (KeepBut.trans mc44 hk (.inl rfl)); replace HB := A_ (hb); replace HI0 := A_ (hi); (try clear hb)) | (go_at_call 48; (with_reducible refine (spec_l1Cur_pick.calls g s0_0 t356 t357 3 _ _ _ w0 _ ?side1 ?side2 A13.out).mono ?_); (case side1 => exact mc33); (case side2 => exact mc30); rintro e w23 ⟨rfl, hi, hb, hk⟩; replace HK := A_ (KeepBut.trans mc44 hk (.inl rfl)); replace HB := A_ (hb); replace HI0 := A_ (hi); (try clear hb)))
   repeat (go_quiet (first | (go_at_call 48; (with_reducible refine (spec_l1Cur_pick.calls g s0_0 s0_1 s0_2 (a1.size : Int) _ _ _ w0 _ ?side1 ?side2 A7.out).mono ?_); (case side1 => exact mc33); (case side2 => exact mc30); rintro e w21 ⟨rfl, hi, hb, hk⟩; replace HK := A_ (KeepBut.trans mc44 hk (.inl rfl)); replace HB := A_ (hb); replace HI0 := A_ (hi); (try clear hb)) | (go_at_call 48; (with_reducible refine (spec_l1Cur_pick.calls g s0_0 t353 t354 (a2.size : Int) _ _ _ w0 _ ?side1 ?side2 A8.out).mono ?_); (case side1 => exact mc33); (case side2 => exact mc30); rintro e w22 ⟨rfl, hi, hb, hk⟩; replace HK := A_ (KeepBut.trans mc44 hk (.inl rfl)); replace HB := A_ (hb); replace HI0 := A_ (hi); (try clear hb)) | (go_at_call 48; (with_reducible refine (spec_l1Cur_pick.calls g s0_0 t356 t357 3 _ _ _ w0 _ ?side1 ?side2 A13.out).mono ?_); (case side1 => exact mc33); (case side2 => exact mc30); rintro e w23 ⟨rfl, hi, hb, hk⟩; replace HK := A_ (KeepBut.trans mc44 hk (.inl rfl)); replace HB := A_ (hb); replace HI0 := A_ (hi); (try clear hb))); try go_wp2_with (first | (go_at_call 48; (with_reducible refine (spec_l1Cur_pick.calls g s0_0 s0_1 s0_2 (a1.size : Int) _ _ _ w0 _ ?side1 ?side2 A7.out).mono ?_); (case side1 => exact mc33); (case side2 => exact mc30); rintro e w21 ⟨rfl, hi, hb, hk⟩; replace HK := A_ (KeepBut.trans mc44 hk (.inl rfl)); replace HB := A_ (hb); replace HI0 := A_ (hi); (try clear hb)) | (go_at_call 48; (with_reducible refine (spec_l1Cur_pick.calls g s0_0 t353 t354 (a2.size : Int) _ _ _ w0 _ ?side1 ?side2 A8.out).mono ?_); (case side1 => exact mc33); (case side2 => exact mc30); rintro e w22 ⟨rfl, hi, hb, hk⟩; replace HK := A_ (KeepBut.trans mc44 hk (.inl rfl)); replace HB := A_ (hb); replace HI0 := A_ (hi); (try clear hb)) | (go_at_call 48; (with_reducible refine (spec_l1Cur_pick.calls g s0_0 t356 t357 3 _ _ _ w0 _ ?side1 ?side2 A13.out).mono ?_); (case side1 => exact mc33); (case side2 => exact mc30); rintro e w23 ⟨rfl, hi, hb, hk⟩; replace HK := A_ (KeepBut.trans mc44 hk (.inl rfl)); replace HB := A_ (hb); replace HI0 := A_ (hi); (try clear hb))))
   go_ret
   first
   | exact ⟨mc76, mc33, mc30, mc44⟩
   | exact ⟨by first | rfl | (simp [errW_none, errW_some] <;> rfl) | (simp only [← hji28]; first | rfl | (simp [errW_none, errW_some] <;> rfl)) | (simp [*, errW_none, errW_some] <;> rfl), mc33, mc30, mc44⟩
   | exact ⟨by first | rfl | (simp [errW_none, errW_some] <;> rfl) | (simp only [← hji37]; first | rfl | (simp [errW_none, errW_some] <;> rfl)) | (simp [*, errW_none, errW_some] <;> rfl), mc33, mc30, mc44⟩) : P := h
set_option maxHeartbeats 8000000 in
set_option maxRecDepth 100000 in
theorem spec_l1Cur_spoilt.calls (g : Nat) (s0_0 : List Int) (s0_1 : Int) (s0_2 : Int) (a1 : ByteArray) (a2 : ByteArray) (r1 : ByteArray) (r2 : Int) (r3 : Int) (w0 w : World) (hI : IsS50 w0 w g s0_0 s0_1 s0_2) (hB : Below w0.heap.size w0 w) (h : spec_l1Cur_spoilt.f s0_0 s0_1 s0_2 a1 a2 = some (r1, r2, r3)) :
  Calls Tryz.prog 42 #[.pointer (some ⟨g, 0, none⟩), .string a1, .string a2] w fun e w' => e = .returned (.string r1) ∧ IsS50 w0 w' g s0_0 r2 r3 ∧ Below w0.heap.size w0 w' ∧ KeepBut w w' g none := by
 have HI0 := A_ hI
 have HK := A_ (KeepBut.refl w g none)
 have HL := A_ hB.size
 clear hI
 have HW0 := A_ hB.size
 have HB := A_ hB
 clear hB
 have H : (if a1.toList = ([] : List UInt8) then (if 0 ≤ 1 then (if 1 ≤ (a2.size : Int) then (some (a2.extract 0 1, s0_1, s0_2)) else (none)) else (none)) else ((spec_l1Cur_pick.f s0_0 s0_1 s0_2 (a1.size : Int)).bind fun bt352 => ((spec_l1Cur_pick.f s0_0 bt352.2.1 bt352.2.2 (a2.size : Int)).bind fun bt355 => (if 0 ≤ bt355.1 then (if bt355.1 ≤ (a2.size : Int) then (if 0 ≤ 1 then (if 1 ≤ ((a2.extract (bt355.1 : Int).toNat a2.size).size : Int) then ((spec_l1Cur_pick.f s0_0 bt355.2.1 bt355.2.2 3).bind fun bt358 => (if bt358.1 = 0 then (if 0 ≤ bt352.1 then (if bt352.1 ≤ (a1.size : Int) then (if (a1.extract 0 (bt352.1 : Int).toNat).size + ((a2.extract (bt355.1 : Int).toNat a2.size).extract 0 1).size ≤ 9223372036854775807 then (if ((a1.extract 0 (bt352.1 : Int).toNat) ++ ((a2.extract (bt355.1 : Int).toNat a2.size).extract 0 1)).size + (a1.extract (bt352.1 : Int).toNat a1.size).size ≤ 9223372036854775807 then (some (((a1.extract 0 (bt352.1 : Int).toNat) ++ ((a2.extract (bt355.1 : Int).toNat a2.size).extract 0 1)) ++ (a1.extract (bt352.1 : Int).toNat a1.size), bt358.2.1, bt358.2.2)) else (none)) else (none)) else (none)) else (none)) else (if bt358.1 = 1 then (if 0 ≤ bt352.1 then (if bt352.1 ≤ (a1.size : Int) then (if (a1.extract 0 (bt352.1 : Int).toNat).size + ((a2.extract (bt355.1 : Int).toNat a2.size).extract 0 1).size ≤ 9223372036854775807 then (if 0 ≤ (wrap64 (bt352.1 + 1)) then (if (wrap64 (bt352.1 + 1)) ≤ (a1.size : Int) then (if ((a1.extract 0 (bt352.1 : Int).toNat) ++ ((a2.extract (bt355.1 : Int).toNat a2.size).extract 0 1)).size + (a1.extract ((wrap64 (bt352.1 + 1)) : Int).toNat a1.size).size ≤ 9223372036854775807 then (some (((a1.extract 0 (bt352.1 : Int).toNat) ++ ((a2.extract (bt355.1 : Int).toNat a2.size).extract 0 1)) ++ (a1.extract ((wrap64 (bt352.1 + 1)) : Int).toNat a1.size), bt358.2.1, bt358.2.2)) else (none)) else (none)) else (none)) else (none)) else (none)) else (none)) else (if 0 ≤ bt352.1 then (if bt352.1 ≤ (a1.size : Int) then (if 0 ≤ (wrap64 (bt352.1 + 1)) then (if (wrap64 (bt352.1 + 1)) ≤ (a1.size : Int) then (if (a1.extract 0 (bt352.1 : Int).toNat).size + (a1.extract ((wrap64 (bt352.1 + 1)) : Int).toNat a1.size).size ≤ 9223372036854775807 then (some ((a1.extract 0 (bt352.1 : Int).toNat) ++ (a1.extract ((wrap64 (bt352.1 + 1)) : Int).toNat a1.size), bt358.2.1, bt358.2.2)) else (none)) else (none)) else (none)) else (none)) else (none))))) else (none)) else (none)) else (none)) else (none))))) = some (r1, r2, r3) := h
 clear h
 by_cases c4 : a1.toList = ([] : List UInt8)
 ·
  rw [if_pos c4] at H
  have c4b0 : (a1.toList == ([] : List UInt8)) = true := beq_iff_eq.mpr c4
  have c4b1 : (a1.toList != ([] : List UInt8)) = false := bne_eq_false_iff_eq.mpr c4
  clear c4
  by_cases c5 : 0 ≤ 1
  ·
   rw [if_pos c5] at H
   have c5b0 := eq_true c5
   have c5b1 : decide (0 ≤ 1) = true := decide_eq_true c5
   clear c5
   by_cases c6 : 1 ≤ (a2.size : Int)
   ·
    rw [if_pos c6] at H
    have c6b0 := eq_true c6
    have c6b1 : decide (1 ≤ (a2.size : Int)) = true := decide_eq_true c6
    clear c6
    exact spec_l1Cur_spoilt.calls.L1
   ·
    rw [if_neg c6] at H
    exact absurd H (by simp)
  ·
   rw [if_neg c5] at H
   exact absurd H (by simp)
 ·
  rw [if_neg c4] at H
  have c4b0 : (a1.toList == ([] : List UInt8)) = false := beq_eq_false_iff_ne.mpr c4
  have c4b1 : (a1.toList != ([] : List UInt8)) = true := bne_iff_ne.mpr c4
  obtain ⟨⟨t352, t353, t354⟩, A70, H⟩ := oB_ H
  have A7 := A_ A70
  clear A70
  obtain ⟨⟨t355, t356, t357⟩, A80, H⟩ := oB_ H
  have A8 := A_ A80
  clear A80
  obtain ⟨V_, hV_⟩ : ∃ x_ : ByteArray, a2.extract (t355 : Int).toNat a2.size = x_ := ⟨_, rfl⟩
  obtain ⟨W_, hW_⟩ : ∃ x_ : ByteArray, V_.extract 0 1 = x_ := ⟨_, rfl⟩
  obtain ⟨X_, hX_⟩ : ∃ x_ : ByteArray, a1.extract 0 (t352 : Int).toNat = x_ := ⟨_, rfl⟩
  obtain ⟨Y0_, hY0_⟩ : ∃ x_ : ByteArray, a1.extract (t352 : Int).toNat a1.size = x_ := ⟨_, rfl⟩
  obtain ⟨J_, hJ_⟩ : ∃ x_ : ByteArray, X_ ++ W_ = x_ := ⟨_, rfl⟩
  simp only [hV_, hW_, hX_, hY0_, hJ_] at H
  by_cases c9 : 0 ≤ t355
  ·
   rw [if_pos c9] at H
   have c9b0 := eq_true c9
   have c9b1 : decide (0 ≤ t355) = true := decide_eq_true c9
   clear c9
   by_cases c10 : t355 ≤ (a2.size : Int)
   ·
    rw [if_pos c10] at H
    have c10b0 := eq_true c10
    have c10b1 : decide (t355 ≤ (a2.size : Int)) = true := decide_eq_true c10
    clear c10
    by_cases c11 : 0 ≤ 1
    ·
     rw [if_pos c11] at H
     have c11b0 := eq_true c11
     have c11b1 : decide (0 ≤ 1) = true := decide_eq_true c11
     clear c11
     by_cases c12 : 1 ≤ (V_.size : Int)
     ·
      rw [if_pos c12] at H
      have c12b0 := eq_true c12
      have c12b1 : decide (1 ≤ (V_.size : Int)) = true := decide_eq_true c12
      clear c12
      obtain ⟨⟨t358, t359, t360⟩, A130, H⟩ := oB_ H
      have A13 := A_ A130
      clear A130
      by_cases c14 : t358 = 0
      ·
       rw [if_pos c14] at H
       have c14b0 : (t358 == 0) = true := beq_iff_eq.mpr c14
       have c14b1 : (t358 != 0) = false := bne_eq_false_iff_eq.mpr c14
       clear c14
       by_cases c15 : 0 ≤ t352
       ·
        rw [if_pos c15] at H
        have c15b0 := eq_true c15
        have c15b1 : decide (0 ≤ t352) = true := decide_eq_true c15
        clear c15
        by_cases c16 : t352 ≤ (a1.size : Int)
        ·
         rw [if_pos c16] at H
         have c16b0 := eq_true c16
         have c16b1 : decide (t352 ≤ (a1.size : Int)) = true := decide_eq_true c16
         clear c16
         by_cases c17 : X_.size + W_.size ≤ 9223372036854775807
         ·
          rw [if_pos c17] at H
          have c17b0 := eq_true c17
          have c17b1 : decide (X_.size + W_.size ≤ 9223372036854775807) = true := decide_eq_true c17
          try have c17b2 : (9223372036854775807 < X_.size + W_.size) = False := eq_false (Nat.not_lt.2 c17)
          have c18b0 := eq_true (of_decide_eq_true mc81 : 0 ≤ t352)
          have c19b0 := eq_true (of_decide_eq_true mc81 : t352 ≤ (a1.size : Int))
          by_cases c20 : J_.size + Y0_.size ≤ 9223372036854775807
          ·
           rw [if_pos c20] at H
           have c20b0 := eq_true c20
           have c20b1 : decide (J_.size + Y0_.size ≤ 9223372036854775807) = true := decide_eq_true c20
           try have c20b2 : (9223372036854775807 < J_.size + Y0_.size) = False := eq_false (Nat.not_lt.2 c20)
           exact spec_l1Cur_spoilt.calls.L1
          ·
           rw [if_neg c20] at H
           exact absurd H (by simp)
         ·
          rw [if_neg c17] at H
          exact absurd H (by simp)
        ·
         rw [if_neg c16] at H
         exact absurd H (by simp)
       ·
        rw [if_neg c15] at H
        exact absurd H (by simp)
      ·
       rw [if_neg c14] at H
       have c14b0 : (t358 == 0) = false := beq_eq_false_iff_ne.mpr c14
       have c14b1 : (t358 != 0) = true := bne_iff_ne.mpr c14
       by_cases c24 : t358 = 1
       ·
        rw [if_pos c24] at H
        have c24b0 : (t358 == 1) = true := beq_iff_eq.mpr c24
        have c24b1 : (t358 != 1) = false := bne_eq_false_iff_eq.mpr c24
        clear c24
        by_cases c25 : 0 ≤ t352
        ·
         rw [if_pos c25] at H
         have c25b0 := eq_true c25
         have c25b1 : decide (0 ≤ t352) = true := decide_eq_true c25
         clear c25
         by_cases c26 : t352 ≤ (a1.size : Int)
         ·
          rw [if_pos c26] at H
          have c26b0 := eq_true c26
          have c26b1 : decide (t352 ≤ (a1.size : Int)) = true := decide_eq_true c26
          clear c26
          by_cases c27 : X_.size + W_.size ≤ 9223372036854775807
          ·
           rw [if_pos c27] at H
           have c27b0 := eq_true c27
           have c27b1 : decide (X_.size + W_.size ≤ 9223372036854775807) = true := decide_eq_true c27
           try have c27b2 : (9223372036854775807 < X_.size + W_.size) = False := eq_false (Nat.not_lt.2 c27)
           obtain ⟨ji28, hji28⟩ : ∃ j_ : Int, (wrap64 (t352 + 1)) = j_ := ⟨_, rfl⟩
           replace H : (if 0 ≤ (ji28) then (if (ji28) ≤ (a1.size : Int) then (if J_.size + (a1.extract ((ji28) : Int).toNat a1.size).size ≤ 9223372036854775807 then (some (J_ ++ (a1.extract ((ji28) : Int).toNat a1.size), t359, t360)) else (none)) else (none)) else (none)) = some (r1, r2, r3) := by first | (rw [hji28] at H; exact H) | (simp only [hji28] at H ⊢; exact H)
           (try rw [hji28] at A7)
           (try rw [hji28] at A8)
           (try rw [hji28] at A13)
           have hji28w : (IntKind.i64.wrap (t352 + 1)) = ji28 := (i64_w _).trans hji28
           obtain ⟨Yji28, hYji28⟩ : ∃ x_ : ByteArray, a1.extract ((ji28) : Int).toNat a1.size = x_ := ⟨_, rfl⟩
           simp only [hYji28] at H
           by_cases c29 : 0 ≤ (ji28)
           ·
            rw [if_pos c29] at H
            have c29b0 := eq_true c29
            have c29b1 : decide (0 ≤ (ji28)) = true := decide_eq_true c29
            clear c29
            by_cases c30 : (ji28) ≤ (a1.size : Int)
            ·
             rw [if_pos c30] at H
             have c30b0 := eq_true c30
             have c30b1 : decide ((ji28) ≤ (a1.size : Int)) = true := decide_eq_true c30
             clear c30
             by_cases c31 : J_.size + Yji28.size ≤ 9223372036854775807
             ·
              rw [if_pos c31] at H
              have c31b0 := eq_true c31
              have c31b1 : decide (J_.size + Yji28.size ≤ 9223372036854775807) = true := decide_eq_true c31
              try have c31b2 : (9223372036854775807 < J_.size + Yji28.size) = False := eq_false (Nat.not_lt.2 c31)
              exact spec_l1Cur_spoilt.calls.L1
             ·
              rw [if_neg c31] at H
              exact absurd H (by simp)
            ·
             rw [if_neg c30] at H
             exact absurd H (by simp)
           ·
            rw [if_neg c29] at H
            exact absurd H (by simp)
          ·
           rw [if_neg c27] at H
           exact absurd H (by simp)
         ·
          rw [if_neg c26] at H
          exact absurd H (by simp)
        ·
         rw [if_neg c25] at H
         exact absurd H (by simp)
       ·
        rw [if_neg c24] at H
        have c24b0 : (t358 == 1) = false := beq_eq_false_iff_ne.mpr c24
        have c24b1 : (t358 != 1) = true := bne_iff_ne.mpr c24
        by_cases c35 : 0 ≤ t352
        ·
         rw [if_pos c35] at H
         have c35b0 := eq_true c35
         have c35b1 : decide (0 ≤ t352) = true := decide_eq_true c35
         clear c35
         by_cases c36 : t352 ≤ (a1.size : Int)
         ·
          rw [if_pos c36] at H
          have c36b0 := eq_true c36
          have c36b1 : decide (t352 ≤ (a1.size : Int)) = true := decide_eq_true c36
          clear c36
          obtain ⟨ji37, hji37⟩ : ∃ j_ : Int, (wrap64 (t352 + 1)) = j_ := ⟨_, rfl⟩
          replace H : (if 0 ≤ (ji37) then (if (ji37) ≤ (a1.size : Int) then (if X_.size + (a1.extract ((ji37) : Int).toNat a1.size).size ≤ 9223372036854775807 then (some (X_ ++ (a1.extract ((ji37) : Int).toNat a1.size), t359, t360)) else (none)) else (none)) else (none)) = some (r1, r2, r3) := by first | (rw [hji37] at H; exact H) | (simp only [hji37] at H ⊢; exact H)
          (try rw [hji37] at A7)
          (try rw [hji37] at A8)
          (try rw [hji37] at A13)
          have hji37w : (IntKind.i64.wrap (t352 + 1)) = ji37 := (i64_w _).trans hji37
          obtain ⟨Yji37, hYji37⟩ : ∃ x_ : ByteArray, a1.extract ((ji37) : Int).toNat a1.size = x_ := ⟨_, rfl⟩
          simp only [hYji37] at H
          by_cases c38 : 0 ≤ (ji37)
          ·
           rw [if_pos c38] at H
           have c38b0 := eq_true c38
           have c38b1 : decide (0 ≤ (ji37)) = true := decide_eq_true c38
           clear c38
           by_cases c39 : (ji37) ≤ (a1.size : Int)
           ·
            rw [if_pos c39] at H
            have c39b0 := eq_true c39
            have c39b1 : decide ((ji37) ≤ (a1.size : Int)) = true := decide_eq_true c39
            clear c39
            by_cases c40 : X_.size + Yji37.size ≤ 9223372036854775807
            ·
             rw [if_pos c40] at H
             have c40b0 := eq_true c40
             have c40b1 : decide (X_.size + Yji37.size ≤ 9223372036854775807) = true := decide_eq_true c40
             try have c40b2 : (9223372036854775807 < X_.size + Yji37.size) = False := eq_false (Nat.not_lt.2 c40)
             exact spec_l1Cur_spoilt.calls.L1
            ·
             rw [if_neg c40] at H
             exact absurd H (by simp)
           ·
            rw [if_neg c39] at H
            exact absurd H (by simp)
          ·
           rw [if_neg c38] at H
           exact absurd H (by simp)
         ·
          rw [if_neg c36] at H
          exact absurd H (by simp)
        ·
         rw [if_neg c35] at H
         exact absurd H (by simp)
     ·
      rw [if_neg c12] at H
      exact absurd H (by simp)
    ·
     rw [if_neg c11] at H
     exact absurd H (by simp)
   ·
    rw [if_neg c10] at H
    exact absurd H (by simp)
  ·
   rw [if_neg c9] at H
   exact absurd H (by simp)
/-! ### spec_DrawParseArchive: function 17 -/
def spec_DrawParseArchive.f (k : Nat) (l0 : List Int) : Option (ByteArray) := (mk_l1Cur.f l0).bind fun bt361 => ((spec_l1Cur_archive.f k bt361.1 bt361.2.1 bt361.2.2).bind fun bt365 => ((spec_ArchiveText.f k bt365.1).bind fun bt370 => ((spec_l1Cur_one.f bt361.1 bt365.2.1 bt365.2.2 4).bind fun bt372 => (if bt372.1 = true then ((spec_l1Cur_spoilt.f bt361.1 bt372.2.1 bt372.2.2 bt370.1 (⟨#[32, 48, 97, 10]⟩ : ByteArray)).bind fun bt375 => (some bt375.1)) else (some bt370.1)))))
set_option maxRecDepth 100000 in
theorem spec_DrawParseArchive.calls.L1 {P : Prop} (h : P := by
 obtain rfl := Option.some.inj H
 go_enter Tryz.func17, Tryz.ntmps17
 go_wp2_with (first | ((with_reducible refine gd_ 8 rfl ?_); refine mk_l1Cur.box A0 c0 l0 t361 t362 t363 w A2.out ?side8 ?side9 ?side1 ?side2 ?side3 ?_; (case side8 => rfl); (case side1 => exact mc53); (case side2 => exact HR0.out); (case side3 => exact HC0.out); (case side9 => exact mc83); intro g364 w8 hi hb hb2; replace HB := A_ (hb); have HI364 := A_ (hi); (try clear hb)) | ((with_reducible refine gc_ 22 rfl ?_); refine goesL_ (some 11) rfl rfl Tryz.func22 kr_ rfl #[.pointer (some ⟨g364, 0, none⟩)] rfl mc47 ?_; (with_reducible refine (spec_l1Cur_archive.calls k g364 t361 t362 t363 _ _ _ w _ ?side1 ?side2 A3.out).mono ?_); (case side1 => exact mc29); (case side2 => exact mc27); rintro e w9 ⟨v366, rfl, ho0, hi, hb, hk⟩; refine ⟨_, rfl, ?_⟩; have HO367 := A_ (Kd.R_lower ho0 (below_size mc27)); replace HB := A_ (hb); replace HI364 := A_ (hi); (try clear hb); (try clear ho0); obtain ⟨Ao10, co10, eo10⟩ := Kd.R_slice HO367.out; subst eo10) | ((with_reducible refine gc_ 15 rfl ?_); refine goesL_ (some 12) rfl rfl Tryz.func15 kr_ rfl #[.slice Ao10 t365.length co10] rfl mc47 ?_; (with_reducible refine (spec_ArchiveText.calls k _ _ t365 _ _ _ ?side1 ?side2 A4.out).mono ?_); (case side1 => repeat (first | exact (Kd.R_reads' HO367.out).2.2 | (with_reducible refine Kd.C_alloc ?_ _) | (with_reducible refine Kd.C_drewN ?_ _) | (with_reducible refine Kd.C_drew ?_))); (case side2 => exact (Kd.R_reads' HO367.out).2.1); rintro e w11 ⟨rfl, hb⟩; refine ⟨_, rfl, ?_⟩; replace HO367 := A_ (Kd.R_below mc68 hb); replace HB := A_ (below_step mc27 hb); replace HI364 := A_ (IsS50.below (by repeat (first | (with_reducible first | exact HI364.out | apply IsS50.alloc | apply IsS50.drewN | apply IsS50.drew | apply IsS50.set_1 | apply IsS50.set_2) | exact HI364.out)) hb); (try clear hb)) | ((with_reducible refine gc_ 41 rfl ?_); refine goesL_ (some 16) rfl rfl Tryz.func41 kr_ rfl #[.pointer (some ⟨g364, 0, none⟩), .int .i64 4] rfl mc47 ?_; (with_reducible refine (spec_l1Cur_one.calls g364 t361 t368 t369 4 _ _ _ w _ ?side1 ?side2 A5.out).mono ?_); (case side1 => exact mc29); (case side2 => exact mc27); rintro e w12 ⟨rfl, hi, hb, hk⟩; refine ⟨_, rfl, ?_⟩; replace HO367 := A_ (Kd.R_mono (Kd.R_keep (IsS50.apart (show IsS50 w _ g364 t361 t368 t369 from by repeat (first | (with_reducible first | exact HI364.out | apply IsS50.alloc | apply IsS50.drewN | apply IsS50.drew | apply IsS50.set_1 | apply IsS50.set_2) | exact HI364.out)) mc68 (by decide)) hk (fun _ h => h.2)) (fun _ h => h.1)); replace HB := A_ (hb); replace HI364 := A_ (hi); (try clear hb)) | ((with_reducible refine gc_ 42 rfl ?_); refine goesL_ (some 19) rfl rfl Tryz.func42 kr_ rfl #[.pointer (some ⟨g364, 0, none⟩), .string t370, .string (⟨#[32, 48, 97, 10]⟩ : ByteArray)] rfl mc47 ?_; (with_reducible refine (spec_l1Cur_spoilt.calls g364 t361 t373 t374 t370 (⟨#[32, 48, 97, 10]⟩ : ByteArray) _ _ _ w _ ?side1 ?side2 A7.out).mono ?_); (case side1 => exact mc29); (case side2 => exact mc27); rintro e w13 ⟨rfl, hi, hb, hk⟩; refine ⟨_, rfl, ?_⟩; replace HO367 := A_ (Kd.R_mono (Kd.R_keep (IsS50.apart (show IsS50 w _ g364 t361 t373 t374 from by repeat (first | (with_reducible first | exact HI364.out | apply IsS50.alloc | apply IsS50.drewN | apply IsS50.drew | apply IsS50.set_1 | apply IsS50.set_2) | exact HI364.out)) mc68 (by decide)) hk (fun _ h => h.2)) (fun _ h => h.1)); replace HB := A_ (hb); replace HI364 := A_ (hi); (try clear hb)))
 go_ret
 exact ⟨mc76, by repeat (first | (with_reducible first | exact HB.out | apply below_alloc | apply pw_below_drewN | apply below_drew1 | refine below_set ?_ (IsS50.ge HI364.out)) | exact HB.out)⟩) : P := h
set_option maxHeartbeats 8000000 in
set_option maxRecDepth 100000 in
theorem spec_DrawParseArchive.calls (k : Nat) (A0 : Option Addr) (c0 : Nat) (l0 : List Int) (r : ByteArray) (w : World) (hr0 : Kd.C (Kd.int .u8) w A0 l0.length l0) (hc0 : l0.length ≤ c0) (h : spec_DrawParseArchive.f k l0 = some r) :
  Calls Tryz.prog 17 #[.slice A0 l0.length c0] w fun e w' => e = .returned (.string r) ∧ Below w.heap.size w w' := by
 have HR0 := A_ hr0
 have HC0 := A_ hc0
 clear hr0 hc0
 have HB := A_ (Below.refl w.heap.size w)
 have H : ((mk_l1Cur.f l0).bind fun bt361 => ((spec_l1Cur_archive.f k bt361.1 bt361.2.1 bt361.2.2).bind fun bt365 => ((spec_ArchiveText.f k bt365.1).bind fun bt370 => ((spec_l1Cur_one.f bt361.1 bt365.2.1 bt365.2.2 4).bind fun bt372 => (if bt372.1 = true then ((spec_l1Cur_spoilt.f bt361.1 bt372.2.1 bt372.2.2 bt370.1 (⟨#[32, 48, 97, 10]⟩ : ByteArray)).bind fun bt375 => (some bt375.1)) else (some bt370.1)))))) = some r := h
 clear h
 obtain ⟨⟨t361, t362, t363⟩, A20, H⟩ := oB_ H
 have A2 := A_ A20
 clear A20
 obtain ⟨⟨t365, t368, t369⟩, A30, H⟩ := oB_ H
 have A3 := A_ A30
 clear A30
 obtain ⟨⟨t370, t371⟩, A40, H⟩ := oB_ H
 have A4 := A_ A40
 clear A40
 obtain ⟨⟨t372, t373, t374⟩, A50, H⟩ := oB_ H
 have A5 := A_ A50
 clear A50
 by_cases c6 : t372 = true
 ·
  subst c6
  rw [if_pos rfl] at H
  obtain ⟨⟨t375, t376, t377⟩, A70, H⟩ := oB_ H
  have A7 := A_ A70
  clear A70
  exact spec_DrawParseArchive.calls.L1
 ·
  replace c6 := Bool.eq_false_iff.mpr c6
  subst c6
  rw [if_neg (show ¬ (false = true) by decide)] at H
  exact spec_DrawParseArchive.calls.L1
/-! ### spec_l1Split: function 43 -/
def spec_l1Split.l0 : Nat → ByteArray → Int → List ByteArray → Int → Int → Option (List ByteArray)
 | 0, _, _, _, _, _ => none
 | k + 1, x0, x1, x5, x6, x7 => if x7 < (x0.size : Int) then (if 0 ≤ x7 then (if (bt x0 x7) = x1 then (if 0 ≤ x6 then (if x6 ≤ x7 then (if x7 ≤ (x0.size : Int) then (if x5.length < 8796093022208 then (spec_l1Split.l0 k x0 x1 (x5 ++ [x0.extract (x6 : Int).toNat (x7 : Int).toNat]) (wrap64 (x7 + 1)) (wrap64 (x7 + 1))) else (none)) else (none)) else (none)) else (none)) else (spec_l1Split.l0 k x0 x1 x5 x6 (wrap64 (x7 + 1)))) else (none)) else (if 0 ≤ x6 then (if x6 ≤ (x0.size : Int) then (if x5.length < 8796093022208 then (some (x5 ++ [x0.extract (x6 : Int).toNat x0.size])) else (none)) else (none)) else (none))
def spec_l1Split.f (k : Nat) (a0 : ByteArray) (a1 : Int) : Option (List ByteArray) := spec_l1Split.l0 k a0 a1 (([] : List ByteArray)) 0 0
set_option maxHeartbeats 8000000 in
set_option maxRecDepth 100000 in
theorem spec_l1Split.calls (k : Nat) (a0 : ByteArray) (a1 : Int) (r : List ByteArray) (w : World) (h : spec_l1Split.f k a0 a1 = some r) :
  Calls Tryz.prog 43 #[.string a0, .int .u8 a1] w fun e w' => ∃ v0_ : Value, e = .returned (v0_) ∧ Kd.R Kd.string 9 w' w.heap.size (fun _ => True) v0_ r ∧ Below w.heap.size w w' := by
 have HB := A_ (Below.refl w.heap.size w)
 have H : (spec_l1Split.l0 k a0 a1 (([] : List ByteArray)) 0 0) = some r := h
 clear h
 obtain ⟨y378, hy378⟩ : ∃ y_ : List ByteArray, y_ = (([] : List ByteArray)) := ⟨_, rfl⟩
 replace H : (spec_l1Split.l0 k a0 a1 y378 0 0) = some r := by first | (rw [hy378]; with_reducible exact H) | (have H2_ := (Option.bind_some _ _).symm.trans H; rw [hy378]; with_reducible exact H2_) | (have H2_ := (Option.bind_some _ _).symm.trans H; with_reducible exact H2_) | with_reducible exact H | (rw [hy378]; exact H) | exact H
 have Ny378 := A_ hy378
 clear hy378
 have H' := A_ H
 clear H
 go_enter Tryz.func43, Tryz.ntmps43
 go_wp2_with (first | ((with_reducible refine gd_ 8 rfl ?_); refine Kd.R_lit Kd.string _ 9 ?hg (N := 8) ?hd (xs := ([] : List ByteArray)) (inner := []) (ok := fun _ => True) (okp := fun _ => True) ?hr ?hp (fun _ hk => hk) trivial (Below.refl _ _) (Nat.le_refl _) (by simp) ?_; (case hd => rfl); (case hg => rfl); (case hr => exact mc83); (case hp => exact (Reps.none _ _)); intro v379 w3 ho4 hb hg_ hnew_; clear hg_ hnew_; (first | rw [← Ny378.out] at ho4 | (simp only [Int.reduceToNat] at ho4; rw [← Ny378.out] at ho4)); have HO380 := A_ (Kd.R_lower ho4 (below_size mc53)); replace HB := A_ (below_step mc53 hb); clear hb ho4))
 go_loopg [5, 6, 7] k (fun kq v5 v6 v7 w' => ∃ (x5_1 : List ByteArray) (x6_1 : Int) (x7_1 : Int), v6 = .int .i64 x6_1 ∧ v7 = .int .i64 x7_1 ∧ Aside0 (spec_l1Split.l0 kq a0 a1 x5_1 x6_1 x7_1 = some r) ∧ Aside0 (kq ≤ k) ∧ Aside0 (Kd.R Kd.string 9 w' w.heap.size (fun _ => True) v5 x5_1) ∧ Aside0 (Below w.heap.size w w'))
 case atStart => exact ⟨(y378), (0), (0), mc82, mc82, H', ⟨Nat.le_refl _⟩, ⟨by (with_reducible repeat (first | apply Kd.R_alloc | apply Kd.R_drewN | apply Kd.R_drew)); exact HO380.out⟩, ⟨mc53⟩⟩
 case round =>
  clear H'
  try clear p2
  obtain ⟨x5_1, x6_1, x7_1, rfl, rfl, HA, HK1, HO_5, HB⟩ := hrel
  cases gk with
  | zero => exact absurd HA.out (by simp [spec_l1Split.l0])
  | succ k1 =>
   have H := HA.out
   clear HA
   simp only [spec_l1Split.l0] at H
   by_cases c5 : x7_1 < (a0.size : Int)
   ·
    rw [if_pos c5] at H
    have c5b0 : decide (x7_1 < (a0.size : Int)) = true := decide_eq_true c5
    clear c5
    by_cases c6 : 0 ≤ x7_1
    ·
     rw [if_pos c6] at H
     have c6b0 : decide (0 ≤ x7_1) = true := decide_eq_true c6
     clear c6
     by_cases c8 : (bt a0 x7_1) = a1
     ·
      rw [if_pos c8] at H
      have c8b0 : ((bt a0 x7_1) == a1) = true := beq_iff_eq.mpr c8
      have c8b1 : ((bt a0 x7_1) != a1) = false := bne_eq_false_iff_eq.mpr c8
      clear c8
      by_cases c9 : 0 ≤ x6_1
      ·
       rw [if_pos c9] at H
       have c9b0 := eq_true c9
       have c9b1 : decide (0 ≤ x6_1) = true := decide_eq_true c9
       clear c9
       by_cases c10 : x6_1 ≤ x7_1
       ·
        rw [if_pos c10] at H
        have c10b0 := eq_true c10
        have c10b1 : decide (x6_1 ≤ x7_1) = true := decide_eq_true c10
        clear c10
        by_cases c11 : x7_1 ≤ (a0.size : Int)
        ·
         rw [if_pos c11] at H
         have c11b0 := eq_true c11
         have c11b1 : decide (x7_1 ≤ (a0.size : Int)) = true := decide_eq_true c11
         clear c11
         by_cases c12 : x5_1.length < 8796093022208
         ·
          rw [if_pos c12] at H
          have LMc12 := A_ c12
          clear c12
          obtain ⟨y381, hy381⟩ : ∃ y_ : List ByteArray, y_ = (x5_1 ++ [a0.extract (x6_1 : Int).toNat (x7_1 : Int).toNat]) := ⟨_, rfl⟩
          replace H : (spec_l1Split.l0 k1 a0 a1 y381 (wrap64 (x7_1 + 1)) (wrap64 (x7_1 + 1))) = some r := by first | (rw [hy381]; with_reducible exact H) | (have H2_ := (Option.bind_some _ _).symm.trans H; rw [hy381]; with_reducible exact H2_) | (have H2_ := (Option.bind_some _ _).symm.trans H; with_reducible exact H2_) | with_reducible exact H | (rw [hy381]; exact H) | exact H
          have Ny381 := A_ hy381
          clear hy381
          have H' := A_ H
          clear H
          have p7 : 0 ≤ (x7_1 : Int) := of_decide_eq_true mc81
          have q7 : x7_1 < (a0.size : Int) := of_decide_eq_true mc81
          have hx7 := bt_at a0 x7_1
          replace p7 := eq_true p7
          replace q7 := eq_true q7
          go_wp2_with (first | ((with_reducible refine gate_builtin (b := .append) (xs := #[.tmp 20, .tmp 25]) rfl ?_); at_builtin; refine Kd.R_append Kd.string (w0 := w) w.heap.size rfl (.tmp 20) (.tmp 25) 72 9 (.string ⟨#[]⟩) 16 rfl Tryz.underlying72 info9 rfl (by decide) (by omega) u5 x5_1 (a0.extract (x6_1 : Int).toNat (x7_1 : Int).toNat) [.string (a0.extract (x6_1 : Int).toNat (x7_1 : Int).toNat)] (fun _ => True) (fun _ => False) rfl rfl ?aP (fun _ hk => hk.elim) ?aF ?aO ?aB ?aS ?aL ?_; (case aP => exact rfl); (case aB => exact mc53); (case aF => exact (fun _ _ => trivial)); (case aO => exact mc73); (case aS => exact (below_size mc53)); (case aL => have := LMc12.out; omega); intro v382 w13 ho hb hg hat; rw [← Ny381.out] at ho; replace HB := A_ (hb); have HO383 := A_ (ho); clear HO_5; clear ho hb hg hat))
          go_roundg k1
          case measure => have := HK1.out; omega
          case rel => exact ⟨(y381), (wrap64 (x7_1 + 1)), (wrap64 (x7_1 + 1)), mc82, mc82, H', ⟨mc86⟩, ⟨by (with_reducible repeat (first | apply Kd.R_alloc | apply Kd.R_drewN | apply Kd.R_drew)); exact HO383.out⟩, ⟨mc53⟩⟩
         ·
          rw [if_neg c12] at H
          exact absurd H (by simp)
        ·
         rw [if_neg c11] at H
         exact absurd H (by simp)
       ·
        rw [if_neg c10] at H
        exact absurd H (by simp)
      ·
       rw [if_neg c9] at H
       exact absurd H (by simp)
     ·
      rw [if_neg c8] at H
      have c8b0 : ((bt a0 x7_1) == a1) = false := beq_eq_false_iff_ne.mpr c8
      have c8b1 : ((bt a0 x7_1) != a1) = true := bne_iff_ne.mpr c8
      have H' := A_ H
      clear H
      have p7 : 0 ≤ (x7_1 : Int) := of_decide_eq_true mc81
      have q7 : x7_1 < (a0.size : Int) := of_decide_eq_true mc81
      have hx7 := bt_at a0 x7_1
      replace p7 := eq_true p7
      replace q7 := eq_true q7
      go_wp2
      go_roundg k1
      case measure => have := HK1.out; omega
      case rel => exact ⟨(x5_1), (x6_1), (wrap64 (x7_1 + 1)), mc82, mc82, H', ⟨mc86⟩, ⟨mc73⟩, ⟨mc53⟩⟩
    ·
     rw [if_neg c6] at H
     exact absurd H (by simp)
   ·
    rw [if_neg c5] at H
    have c5b0 : decide (x7_1 < (a0.size : Int)) = false := decide_eq_false c5
    clear c5
    by_cases c14 : 0 ≤ x6_1
    ·
     rw [if_pos c14] at H
     have c14b0 := eq_true c14
     have c14b1 : decide (0 ≤ x6_1) = true := decide_eq_true c14
     clear c14
     by_cases c15 : x6_1 ≤ (a0.size : Int)
     ·
      rw [if_pos c15] at H
      have c15b0 := eq_true c15
      have c15b1 : decide (x6_1 ≤ (a0.size : Int)) = true := decide_eq_true c15
      clear c15
      by_cases c16 : x5_1.length < 8796093022208
      ·
       rw [if_pos c16] at H
       have LMc16 := A_ c16
       clear c16
       obtain ⟨y384, hy384⟩ : ∃ y_ : List ByteArray, y_ = (x5_1 ++ [a0.extract (x6_1 : Int).toNat a0.size]) := ⟨_, rfl⟩
       replace H : (some y384) = some r := by first | (rw [hy384]; with_reducible exact H) | (have H2_ := (Option.bind_some _ _).symm.trans H; rw [hy384]; with_reducible exact H2_) | (have H2_ := (Option.bind_some _ _).symm.trans H; with_reducible exact H2_) | with_reducible exact H | (rw [hy384]; exact H) | exact H
       have Ny384 := A_ hy384
       clear hy384
       obtain rfl := Option.some.inj H
       go_wp2_with (first | ((with_reducible refine gate_builtin (b := .append) (xs := #[.tmp 29, .tmp 33]) rfl ?_); at_builtin; refine Kd.R_append Kd.string (w0 := w) w.heap.size rfl (.tmp 29) (.tmp 33) 72 9 (.string ⟨#[]⟩) 16 rfl Tryz.underlying72 info9 rfl (by decide) (by omega) u5 x5_1 (a0.extract (x6_1 : Int).toNat a0.size) [.string (a0.extract (x6_1 : Int).toNat a0.size)] (fun _ => True) (fun _ => False) rfl rfl ?aP (fun _ hk => hk.elim) ?aF ?aO ?aB ?aS ?aL ?_; (case aP => exact rfl); (case aB => exact mc53); (case aF => exact (fun _ _ => trivial)); (case aO => exact mc73); (case aS => exact (below_size mc53)); (case aL => have := LMc16.out; omega); intro v385 w17 ho hb hg hat; rw [← Ny384.out] at ho; replace HB := A_ (hb); have HO386 := A_ (ho); clear HO_5; clear ho hb hg hat))
       go_ret
       exact ⟨_, mc76, by (with_reducible repeat (first | apply Kd.R_alloc | apply Kd.R_drewN | apply Kd.R_drew)); exact HO386.out, mc53⟩
      ·
       rw [if_neg c16] at H
       exact absurd H (by simp)
     ·
      rw [if_neg c15] at H
      exact absurd H (by simp)
    ·
     rw [if_neg c14] at H
     exact absurd H (by simp)

/-! ### spec_l16Cut: function 44 -/
def spec_l16Cut.l0 : Nat → ByteArray → ByteArray → Int → Option (ByteArray × ByteArray × Bool)
 | 0, _, _, _ => none
 | k + 1, x0, x1, x7 => if (wrap64 (x7 + (x1.size : Int))) ≤ (x0.size : Int) then (if 0 ≤ x7 then (if x7 ≤ (wrap64 (x7 + (x1.size : Int))) then (if (x0.extract (x7 : Int).toNat ((wrap64 (x7 + (x1.size : Int))) : Int).toNat).toList = x1.toList then (if x7 ≤ (x0.size : Int) then (if 0 ≤ (wrap64 (x7 + (x1.size : Int))) then (some (x0.extract 0 (x7 : Int).toNat, x0.extract ((wrap64 (x7 + (x1.size : Int))) : Int).toNat x0.size, true)) else (none)) else (none)) else (spec_l16Cut.l0 k x0 x1 (wrap64 (x7 + 1)))) else (none)) else (none)) else (some (x0, (⟨#[]⟩ : ByteArray), false))
def spec_l16Cut.f (k : Nat) (a0 : ByteArray) (a1 : ByteArray) : Option (ByteArray × ByteArray × Bool) := spec_l16Cut.l0 k a0 a1 0
set_option maxHeartbeats 8000000 in
set_option maxRecDepth 100000 in
theorem spec_l16Cut.calls (k : Nat) (a0 : ByteArray) (a1 : ByteArray) (r1 : ByteArray) (r2 : ByteArray) (r3 : Bool) (w : World) (h : spec_l16Cut.f k a0 a1 = some (r1, r2, r3)) :
  Calls Tryz.prog 44 #[.string a0, .string a1] w fun e w' => e = .returned (.tuple #[.string r1, .string r2, .bool r3]) ∧ Drawn0 w w' := by
 have H : (spec_l16Cut.l0 k a0 a1 0) = some (r1, r2, r3) := h
 clear h
 have H' := A_ H
 clear H
 go_enter Tryz.func44, Tryz.ntmps44
 go_wp2
 repeat (go_quiet (fail); try go_wp2)
 go_loopg [7] k (fun kq v7 w' => ∃ (x7_1 : Int), v7 = .int .i64 x7_1 ∧ Aside0 (spec_l16Cut.l0 kq a0 a1 x7_1 = some (r1, r2, r3)) ∧ Aside0 (kq ≤ k) ∧ Drawn0 w w')
 case atStart => exact ⟨(0), mc82, H', ⟨Nat.le_refl _⟩, mc80⟩
 case round =>
  clear H'
  try clear p2
  obtain ⟨x7_1, rfl, HA, HK1, ⟨m1, rfl⟩⟩ := hrel
  cases gk with
  | zero => exact absurd HA.out (by simp [spec_l16Cut.l0])
  | succ k1 =>
   have H := HA.out
   clear HA
   simp only [spec_l16Cut.l0] at H
   by_cases c3 : (wrap64 (x7_1 + (a1.size : Int))) ≤ (a0.size : Int)
   ·
    rw [if_pos c3] at H
    have c3b0 : decide ((wrap64 (x7_1 + (a1.size : Int))) ≤ (a0.size : Int)) = true := decide_eq_true c3
    clear c3
    by_cases c4 : 0 ≤ x7_1
    ·
     rw [if_pos c4] at H
     have c4b0 := eq_true c4
     have c4b1 : decide (0 ≤ x7_1) = true := decide_eq_true c4
     clear c4
     by_cases c5 : x7_1 ≤ (wrap64 (x7_1 + (a1.size : Int)))
     ·
      rw [if_pos c5] at H
      have c5b0 := eq_true c5
      have c5b1 : decide (x7_1 ≤ (wrap64 (x7_1 + (a1.size : Int)))) = true := decide_eq_true c5
      have c6b0 := eq_true (of_decide_eq_true mc81 : (wrap64 (x7_1 + (a1.size : Int))) ≤ (a0.size : Int))
      by_cases c7 : (a0.extract (x7_1 : Int).toNat ((wrap64 (x7_1 + (a1.size : Int))) : Int).toNat).toList = a1.toList
      ·
       rw [if_pos c7] at H
       have c7b0 : ((a0.extract (x7_1 : Int).toNat ((wrap64 (x7_1 + (a1.size : Int))) : Int).toNat).toList == a1.toList) = true := beq_iff_eq.mpr c7
       have c7b1 : ((a0.extract (x7_1 : Int).toNat ((wrap64 (x7_1 + (a1.size : Int))) : Int).toNat).toList != a1.toList) = false := bne_eq_false_iff_eq.mpr c7
       clear c7
       have c8b0 := eq_true (of_decide_eq_true mc81 : 0 ≤ x7_1)
       by_cases c9 : x7_1 ≤ (a0.size : Int)
       ·
        rw [if_pos c9] at H
        have c9b0 := eq_true c9
        have c9b1 : decide (x7_1 ≤ (a0.size : Int)) = true := decide_eq_true c9
        clear c9
        obtain ⟨ji10, hji10⟩ : ∃ j_ : Int, (wrap64 (x7_1 + (a1.size : Int))) = j_ := ⟨_, rfl⟩
        replace H : (if 0 ≤ (ji10) then (some (a0.extract 0 (x7_1 : Int).toNat, a0.extract ((ji10) : Int).toNat a0.size, true)) else (none)) = some (r1, r2, r3) := by first | (rw [hji10] at H; exact H) | (simp only [hji10] at H ⊢; exact H)
        (try rw [hji10] at c3b0)
        (try rw [hji10] at c5b0)
        (try rw [hji10] at c5b1)
        (try rw [hji10] at c5)
        (try rw [hji10] at c7b0)
        (try rw [hji10] at c7b1)
        have hji10w : (IntKind.i64.wrap (x7_1 + (a1.size : Int))) = ji10 := (i64_w _).trans hji10
        by_cases c11 : 0 ≤ (ji10)
        ·
         rw [if_pos c11] at H
         have c11b0 := eq_true c11
         have c11b1 : decide (0 ≤ (ji10)) = true := decide_eq_true c11
         clear c11
         have c12b0 := eq_true (of_decide_eq_true mc81 : (ji10) ≤ (a0.size : Int))
         simp only [Option.some.injEq, Prod.mk.injEq] at H
         obtain ⟨rfl, rfl, rfl⟩ := H
         go_wp2
         repeat (go_quiet (fail); try go_wp2)
         go_ret3
         exact ⟨by first | rfl | (simp; done) | (simp only [← hji10] <;> (first | rfl | simp)) | (simp [*]; done), mc80⟩
        ·
         rw [if_neg c11] at H
         exact absurd H (by simp)
       ·
        rw [if_neg c9] at H
        exact absurd H (by simp)
      ·
       rw [if_neg c7] at H
       have c7b0 : ((a0.extract (x7_1 : Int).toNat ((wrap64 (x7_1 + (a1.size : Int))) : Int).toNat).toList == a1.toList) = false := beq_eq_false_iff_ne.mpr c7
       have c7b1 : ((a0.extract (x7_1 : Int).toNat ((wrap64 (x7_1 + (a1.size : Int))) : Int).toNat).toList != a1.toList) = true := bne_iff_ne.mpr c7
       have H' := A_ H
       clear H
       go_wp2
       repeat (go_quiet (fail); try go_wp2)
       go_roundg k1
       case measure => have := HK1.out; omega
       case rel => exact ⟨(wrap64 (x7_1 + 1)), mc82, H', ⟨mc86⟩, mc80⟩
     ·
      rw [if_neg c5] at H
      exact absurd H (by simp)
    ·
     rw [if_neg c4] at H
     exact absurd H (by simp)
   ·
    rw [if_neg c3] at H
    have c3b0 : decide ((wrap64 (x7_1 + (a1.size : Int))) ≤ (a0.size : Int)) = false := decide_eq_false c3
    clear c3
    simp only [Option.some.injEq, Prod.mk.injEq] at H
    obtain ⟨rfl, rfl, rfl⟩ := H
    go_wp2
    repeat (go_quiet (fail); try go_wp2)
    go_ret3
    exact ⟨mc82, mc80⟩

end Go.Proofs.YtgmmanppmjlclaaGreatDoor.P
