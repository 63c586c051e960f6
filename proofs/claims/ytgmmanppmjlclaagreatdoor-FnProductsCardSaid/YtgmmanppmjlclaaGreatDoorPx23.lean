-- Made by pp.py of this session out of the kit's print and of contracts proved by hand; Lean checks it.
import Derived.Test.YtgmmanppmjlclaaGreatDoorMc
import Derived.Test.YtgmmanppmjlclaaGreatDoorPx0
import Derived.Test.YtgmmanppmjlclaaGreatDoorPx4
import Derived.Test.YtgmmanppmjlclaaGreatDoorPx22
namespace Go.Proofs.YtgmmanppmjlclaaGreatDoor.P
open Go.RowKit Go.Proofs.YtgmmanppmjlclaaGreatDoorW.PrintWords Go.Proofs.YtgmmanppmjlclaaGreatDoorW.PrintLast Go.Proofs.YtgmmanppmjlclaaGreatDoorW.PrintMore
attribute [local go_sem] max2_int min2_int max_two min_two max_three min_three max_four min_four   -- for this text's walks alone
set_option linter.unusedVariables false
set_option linter.unusedSimpArgs false

/-! ### spec_ArchiveText: function 15 -/
def spec_ArchiveText.l0 : Nat → List (S26) → ByteArray → Int → Option (ByteArray × Bool)
  | 0, _, _, _ => none
  | k + 1, x0, x4, x5 => if x5 < (x0.length : Int) then (if 0 ≤ x5 then (if x4.size + ((rd_T26 x0 x5).f0).size ≤ 9223372036854775807 then (if (x4 ++ ((rd_T26 x0 x5).f0)).size + 1 ≤ 9223372036854775807 then ((spec_l1Num.f ((rd_T26 x0 x5).f1)).bind fun t344 => (if ((x4 ++ ((rd_T26 x0 x5).f0)) ++ (⟨#[32]⟩ : ByteArray)).size + t344.size ≤ 9223372036854775807 then (if (((x4 ++ ((rd_T26 x0 x5).f0)) ++ (⟨#[32]⟩ : ByteArray)) ++ t344).size + 1 ≤ 9223372036854775807 then (if ((((x4 ++ ((rd_T26 x0 x5).f0)) ++ (⟨#[32]⟩ : ByteArray)) ++ t344) ++ (⟨#[32]⟩ : ByteArray)).size + ((rd_T26 x0 x5).f2).size ≤ 9223372036854775807 then (if (((((x4 ++ ((rd_T26 x0 x5).f0)) ++ (⟨#[32]⟩ : ByteArray)) ++ t344) ++ (⟨#[32]⟩ : ByteArray)) ++ ((rd_T26 x0 x5).f2)).size + 1 ≤ 9223372036854775807 then (spec_ArchiveText.l0 k x0 ((((((x4 ++ ((rd_T26 x0 x5).f0)) ++ (⟨#[32]⟩ : ByteArray)) ++ t344) ++ (⟨#[32]⟩ : ByteArray)) ++ ((rd_T26 x0 x5).f2)) ++ (⟨#[10]⟩ : ByteArray)) (wrap64 (x5 + 1))) else (none)) else (none)) else (none)) else (none))) else (none)) else (none)) else (none)) else (some (x4, true))
def spec_ArchiveText.f (k : Nat) (l0 : List (S26)) : Option (ByteArray × Bool) := (spec_l26Good.f k l0).bind fun t341 => (if t341 = true then (spec_ArchiveText.l0 k l0 (⟨#[]⟩ : ByteArray) 0) else (some ((⟨#[]⟩ : ByteArray), false)))
set_option maxHeartbeats 8000000 in
set_option maxRecDepth 100000 in
theorem spec_ArchiveText.calls (k : Nat) (A0 : Option Addr) (c0 : Nat) (l0 : List (S26)) (r1 : ByteArray) (r2 : Bool) (w : World) (hr0 : Kd.C k26 w A0 l0.length l0) (hc0 : l0.length ≤ c0) (h : spec_ArchiveText.f k l0 = some (r1, r2)) :
    Calls Tryz.prog 15 #[.slice A0 l0.length c0] w fun e w' => e = .returned (.tuple #[.string r1, .bool r2]) ∧ Below w.heap.size w w' := by
  have HR0 := A_ hr0
  have HC0 := A_ hc0
  clear hr0 hc0
  have HB := A_ (Below.refl w.heap.size w)
  have H : ((spec_l26Good.f k l0).bind fun t341 => (if t341 = true then (spec_ArchiveText.l0 k l0 (⟨#[]⟩ : ByteArray) 0) else (some ((⟨#[]⟩ : ByteArray), false)))) = some (r1, r2) := h
  clear h
  obtain ⟨t341, A20, H⟩ := oB_ H
  have A2 := A_ A20
  clear A20
  by_cases c3 : t341 = true
  · subst c3
    rw [if_pos rfl] at H
    have H' := A_ H
    clear H
    go_enter Tryz.func15, Tryz.ntmps15
    go_wp2_with (first | (go_at_call 29; (with_reducible refine (spec_l26Good.calls k _ _ l0 true _ ?side1 ?side2 A2.out).mono ?_); (case side1 => exact mc43); (case side2 => exact HC0.out); rintro e w4 ⟨rfl, hb⟩; replace HB := A_ (below_step mc53 hb); (try clear hb)))
    repeat (go_quiet (first | (go_at_call 29; (with_reducible refine (spec_l26Good.calls k _ _ l0 true _ ?side1 ?side2 A2.out).mono ?_); (case side1 => exact mc43); (case side2 => exact HC0.out); rintro e w4 ⟨rfl, hb⟩; replace HB := A_ (below_step mc53 hb); (try clear hb))); try go_wp2_with (first | (go_at_call 29; (with_reducible refine (spec_l26Good.calls k _ _ l0 true _ ?side1 ?side2 A2.out).mono ?_); (case side1 => exact mc43); (case side2 => exact HC0.out); rintro e w4 ⟨rfl, hb⟩; replace HB := A_ (below_step mc53 hb); (try clear hb))))
    go_loopg [4, 5] k (fun kq v4 v5 w' => ∃ (x4_1 : ByteArray) (x5_1 : Int), v4 = .string x4_1 ∧ v5 = .int .i64 x5_1 ∧ Aside0 (spec_ArchiveText.l0 kq l0 x4_1 x5_1 = some (r1, r2)) ∧ Aside0 (kq ≤ k) ∧ Aside0 (Below w.heap.size w w'))
    case atStart => exact ⟨((⟨#[]⟩ : ByteArray)), (0), mc82, mc82, H', ⟨Nat.le_refl _⟩, ⟨mc53⟩⟩
    case round =>
      clear H'
      try clear p2
      obtain ⟨x4_1, x5_1, rfl, rfl, HA, HK1, HB⟩ := hrel
      cases gk with
      | zero => exact absurd HA.out (by simp [spec_ArchiveText.l0])
      | succ k1 =>
        have H := HA.out
        clear HA
        simp only [spec_ArchiveText.l0] at H
        by_cases c5 : x5_1 < (l0.length : Int)
        · rw [if_pos c5] at H
          have c5b0 : decide (x5_1 < (l0.length : Int)) = true := decide_eq_true c5
          clear c5
          by_cases c6 : 0 ≤ x5_1
          · rw [if_pos c6] at H
            have c6b0 : decide (0 ≤ x5_1) = true := decide_eq_true c6
            clear c6
            by_cases c7 : x4_1.size + ((rd_T26 l0 x5_1).f0).size ≤ 9223372036854775807
            · rw [if_pos c7] at H
              have c7b0 := eq_true c7
              have c7b1 : decide (x4_1.size + ((rd_T26 l0 x5_1).f0).size ≤ 9223372036854775807) = true := decide_eq_true c7
              try have c7b2 : (9223372036854775807 < x4_1.size + ((rd_T26 l0 x5_1).f0).size) = False := eq_false (Nat.not_lt.2 c7)
              by_cases c8 : (x4_1 ++ ((rd_T26 l0 x5_1).f0)).size + 1 ≤ 9223372036854775807
              · rw [if_pos c8] at H
                have c8b0 := eq_true c8
                have c8b1 : decide ((x4_1 ++ ((rd_T26 l0 x5_1).f0)).size + 1 ≤ 9223372036854775807) = true := decide_eq_true c8
                try have c8b1z : decide ((x4_1.size + ((rd_T26 l0 x5_1).f0).size) + 1 ≤ 9223372036854775807) = true := by have h_ := c8b1; (try simp only [ByteArray.size_append] at h_); exact h_
                try have c8b2 : (9223372036854775807 < (x4_1 ++ ((rd_T26 l0 x5_1).f0)).size + 1) = False := eq_false (Nat.not_lt.2 c8)
                try have c8b2z : (9223372036854775807 < (x4_1.size + ((rd_T26 l0 x5_1).f0).size) + 1) = False := by have h_ := c8b2; (try simp only [ByteArray.size_append] at h_); exact h_
                obtain ⟨t344, A90, H⟩ := oB_ H
                have A9 := A_ A90
                clear A90
                by_cases c10 : ((x4_1 ++ ((rd_T26 l0 x5_1).f0)) ++ (⟨#[32]⟩ : ByteArray)).size + t344.size ≤ 9223372036854775807
                · rw [if_pos c10] at H
                  have c10b0 := eq_true c10
                  have c10b1 : decide (((x4_1 ++ ((rd_T26 l0 x5_1).f0)) ++ (⟨#[32]⟩ : ByteArray)).size + t344.size ≤ 9223372036854775807) = true := decide_eq_true c10
                  try have c10b1z : decide (((x4_1.size + ((rd_T26 l0 x5_1).f0).size) + 1) + t344.size ≤ 9223372036854775807) = true := by have h_ := c10b1; (try simp only [ByteArray.size_append] at h_); exact h_
                  try have c10b2 : (9223372036854775807 < ((x4_1 ++ ((rd_T26 l0 x5_1).f0)) ++ (⟨#[32]⟩ : ByteArray)).size + t344.size) = False := eq_false (Nat.not_lt.2 c10)
                  try have c10b2z : (9223372036854775807 < ((x4_1.size + ((rd_T26 l0 x5_1).f0).size) + 1) + t344.size) = False := by have h_ := c10b2; (try simp only [ByteArray.size_append] at h_); exact h_
                  by_cases c11 : (((x4_1 ++ ((rd_T26 l0 x5_1).f0)) ++ (⟨#[32]⟩ : ByteArray)) ++ t344).size + 1 ≤ 9223372036854775807
                  · rw [if_pos c11] at H
                    have c11b0 := eq_true c11
                    have c11b1 : decide ((((x4_1 ++ ((rd_T26 l0 x5_1).f0)) ++ (⟨#[32]⟩ : ByteArray)) ++ t344).size + 1 ≤ 9223372036854775807) = true := decide_eq_true c11
                    try have c11b1z : decide ((((x4_1.size + ((rd_T26 l0 x5_1).f0).size) + 1) + t344.size) + 1 ≤ 9223372036854775807) = true := by have h_ := c11b1; (try simp only [ByteArray.size_append] at h_); exact h_
                    try have c11b2 : (9223372036854775807 < (((x4_1 ++ ((rd_T26 l0 x5_1).f0)) ++ (⟨#[32]⟩ : ByteArray)) ++ t344).size + 1) = False := eq_false (Nat.not_lt.2 c11)
                    try have c11b2z : (9223372036854775807 < (((x4_1.size + ((rd_T26 l0 x5_1).f0).size) + 1) + t344.size) + 1) = False := by have h_ := c11b2; (try simp only [ByteArray.size_append] at h_); exact h_
                    by_cases c12 : ((((x4_1 ++ ((rd_T26 l0 x5_1).f0)) ++ (⟨#[32]⟩ : ByteArray)) ++ t344) ++ (⟨#[32]⟩ : ByteArray)).size + ((rd_T26 l0 x5_1).f2).size ≤ 9223372036854775807
                    · rw [if_pos c12] at H
                      have c12b0 := eq_true c12
                      have c12b1 : decide (((((x4_1 ++ ((rd_T26 l0 x5_1).f0)) ++ (⟨#[32]⟩ : ByteArray)) ++ t344) ++ (⟨#[32]⟩ : ByteArray)).size + ((rd_T26 l0 x5_1).f2).size ≤ 9223372036854775807) = true := decide_eq_true c12
                      try have c12b1z : decide (((((x4_1.size + ((rd_T26 l0 x5_1).f0).size) + 1) + t344.size) + 1) + ((rd_T26 l0 x5_1).f2).size ≤ 9223372036854775807) = true := by have h_ := c12b1; (try simp only [ByteArray.size_append] at h_); exact h_
                      try have c12b2 : (9223372036854775807 < ((((x4_1 ++ ((rd_T26 l0 x5_1).f0)) ++ (⟨#[32]⟩ : ByteArray)) ++ t344) ++ (⟨#[32]⟩ : ByteArray)).size + ((rd_T26 l0 x5_1).f2).size) = False := eq_false (Nat.not_lt.2 c12)
                      try have c12b2z : (9223372036854775807 < ((((x4_1.size + ((rd_T26 l0 x5_1).f0).size) + 1) + t344.size) + 1) + ((rd_T26 l0 x5_1).f2).size) = False := by have h_ := c12b2; (try simp only [ByteArray.size_append] at h_); exact h_
                      by_cases c13 : (((((x4_1 ++ ((rd_T26 l0 x5_1).f0)) ++ (⟨#[32]⟩ : ByteArray)) ++ t344) ++ (⟨#[32]⟩ : ByteArray)) ++ ((rd_T26 l0 x5_1).f2)).size + 1 ≤ 9223372036854775807
                      · rw [if_pos c13] at H
                        have c13b0 := eq_true c13
                        have c13b1 : decide ((((((x4_1 ++ ((rd_T26 l0 x5_1).f0)) ++ (⟨#[32]⟩ : ByteArray)) ++ t344) ++ (⟨#[32]⟩ : ByteArray)) ++ ((rd_T26 l0 x5_1).f2)).size + 1 ≤ 9223372036854775807) = true := decide_eq_true c13
                        try have c13b1z : decide ((((((x4_1.size + ((rd_T26 l0 x5_1).f0).size) + 1) + t344.size) + 1) + ((rd_T26 l0 x5_1).f2).size) + 1 ≤ 9223372036854775807) = true := by have h_ := c13b1; (try simp only [ByteArray.size_append] at h_); exact h_
                        try have c13b2 : (9223372036854775807 < (((((x4_1 ++ ((rd_T26 l0 x5_1).f0)) ++ (⟨#[32]⟩ : ByteArray)) ++ t344) ++ (⟨#[32]⟩ : ByteArray)) ++ ((rd_T26 l0 x5_1).f2)).size + 1) = False := eq_false (Nat.not_lt.2 c13)
                        try have c13b2z : (9223372036854775807 < (((((x4_1.size + ((rd_T26 l0 x5_1).f0).size) + 1) + t344.size) + 1) + ((rd_T26 l0 x5_1).f2).size) + 1) = False := by have h_ := c13b2; (try simp only [ByteArray.size_append] at h_); exact h_
                        have H' := A_ H
                        clear H
                        have p342 : 0 ≤ (x5_1 : Int) := of_decide_eq_true mc81
                        have q342 : x5_1 < (l0.length : Int) := of_decide_eq_true mc81
                        obtain ⟨ad342, e342, hx342_0, hx342_1, hx342_2⟩ := at_T26 HR0.out x5_1 p342 q342
                        cases e342
                        replace hx342_0 := (HB.out.cell (World.block_lt_of_cell? w _ hx342_0)).trans hx342_0
                        replace hx342_1 := (HB.out.cell (World.block_lt_of_cell? w _ hx342_1)).trans hx342_1
                        replace hx342_2 := (HB.out.cell (World.block_lt_of_cell? w _ hx342_2)).trans hx342_2
                        replace p342 := eq_true p342
                        replace q342 := eq_true q342
                        have p343 : 0 ≤ (x5_1 : Int) := of_decide_eq_true mc81
                        have q343 : x5_1 < (l0.length : Int) := of_decide_eq_true mc81
                        obtain ⟨ad343, e343, hx343_0, hx343_1, hx343_2⟩ := at_T26 HR0.out x5_1 p343 q343
                        obtain rfl : ad342 = ad343 := (by injection e343)
                        replace hx343_0 := (HB.out.cell (World.block_lt_of_cell? w _ hx343_0)).trans hx343_0
                        replace hx343_1 := (HB.out.cell (World.block_lt_of_cell? w _ hx343_1)).trans hx343_1
                        replace hx343_2 := (HB.out.cell (World.block_lt_of_cell? w _ hx343_2)).trans hx343_2
                        replace p343 := eq_true p343
                        replace q343 := eq_true q343
                        go_wp2_with (first | (go_at_call 36; (with_reducible refine (spec_l1Num.calls ((rd_T26 l0 x5_1).f1) t344 _ A9.out).mono ?_); rintro e w' ⟨rfl, ⟨nd, rfl⟩⟩; (try first | exact ⟨rfl, _, World.drewN_drewN _ _ _⟩ | exact ⟨rfl, _, Eq.trans (World.drewN_drewN _ _ _) (congrArg (World.drewN _) (Nat.add_assoc _ _ _))⟩); have p345 : 0 ≤ (x5_1 : Int) := of_decide_eq_true mc81; have q345 : x5_1 < (l0.length : Int) := of_decide_eq_true mc81; obtain ⟨ad345, e345, hx345_0, hx345_1, hx345_2⟩ := at_T26 HR0.out x5_1 p345 q345; obtain rfl : ad342 = ad345 := (by injection e345); replace hx345_0 := (HB.out.cell (World.block_lt_of_cell? w _ hx345_0)).trans hx345_0; replace hx345_1 := (HB.out.cell (World.block_lt_of_cell? w _ hx345_1)).trans hx345_1; replace hx345_2 := (HB.out.cell (World.block_lt_of_cell? w _ hx345_2)).trans hx345_2; replace p345 := eq_true p345; replace q345 := eq_true q345))
                        repeat (go_quiet (first | (go_at_call 36; (with_reducible refine (spec_l1Num.calls ((rd_T26 l0 x5_1).f1) t344 _ A9.out).mono ?_); rintro e w' ⟨rfl, ⟨nd, rfl⟩⟩; (try first | exact ⟨rfl, _, World.drewN_drewN _ _ _⟩ | exact ⟨rfl, _, Eq.trans (World.drewN_drewN _ _ _) (congrArg (World.drewN _) (Nat.add_assoc _ _ _))⟩))); (try (have p345 : 0 ≤ (x5_1 : Int) := of_decide_eq_true mc81; have q345 : x5_1 < (l0.length : Int) := of_decide_eq_true mc81; obtain ⟨ad345, e345, hx345_0, hx345_1, hx345_2⟩ := at_T26 HR0.out x5_1 p345 q345; obtain rfl : ad342 = ad345 := (by injection e345); replace hx345_0 := (HB.out.cell (World.block_lt_of_cell? w _ hx345_0)).trans hx345_0; replace hx345_1 := (HB.out.cell (World.block_lt_of_cell? w _ hx345_1)).trans hx345_1; replace hx345_2 := (HB.out.cell (World.block_lt_of_cell? w _ hx345_2)).trans hx345_2; replace p345 := eq_true p345; replace q345 := eq_true q345)); try go_wp2_with (first | (go_at_call 36; (with_reducible refine (spec_l1Num.calls ((rd_T26 l0 x5_1).f1) t344 _ A9.out).mono ?_); rintro e w' ⟨rfl, ⟨nd, rfl⟩⟩; (try first | exact ⟨rfl, _, World.drewN_drewN _ _ _⟩ | exact ⟨rfl, _, Eq.trans (World.drewN_drewN _ _ _) (congrArg (World.drewN _) (Nat.add_assoc _ _ _))⟩); have p345 : 0 ≤ (x5_1 : Int) := of_decide_eq_true mc81; have q345 : x5_1 < (l0.length : Int) := of_decide_eq_true mc81; obtain ⟨ad345, e345, hx345_0, hx345_1, hx345_2⟩ := at_T26 HR0.out x5_1 p345 q345; obtain rfl : ad342 = ad345 := (by injection e345); replace hx345_0 := (HB.out.cell (World.block_lt_of_cell? w _ hx345_0)).trans hx345_0; replace hx345_1 := (HB.out.cell (World.block_lt_of_cell? w _ hx345_1)).trans hx345_1; replace hx345_2 := (HB.out.cell (World.block_lt_of_cell? w _ hx345_2)).trans hx345_2; replace p345 := eq_true p345; replace q345 := eq_true q345)))
                        go_roundg k1
                        case measure => have := HK1.out; omega
                        case rel => exact ⟨((((((x4_1 ++ ((rd_T26 l0 x5_1).f0)) ++ (⟨#[32]⟩ : ByteArray)) ++ t344) ++ (⟨#[32]⟩ : ByteArray)) ++ ((rd_T26 l0 x5_1).f2)) ++ (⟨#[10]⟩ : ByteArray)), (wrap64 (x5_1 + 1)), mc82, mc82, H', ⟨mc86⟩, ⟨mc53⟩⟩
                      · rw [if_neg c13] at H
                        exact absurd H (by simp)
                    · rw [if_neg c12] at H
                      exact absurd H (by simp)
                  · rw [if_neg c11] at H
                    exact absurd H (by simp)
                · rw [if_neg c10] at H
                  exact absurd H (by simp)
              · rw [if_neg c8] at H
                exact absurd H (by simp)
            · rw [if_neg c7] at H
              exact absurd H (by simp)
          · rw [if_neg c6] at H
            exact absurd H (by simp)
        · rw [if_neg c5] at H
          have c5b0 : decide (x5_1 < (l0.length : Int)) = false := decide_eq_false c5
          clear c5
          simp only [Option.some.injEq, Prod.mk.injEq] at H
          obtain ⟨rfl, rfl⟩ := H
          go_wp2
          repeat (go_quiet (fail); try go_wp2)
          go_ret2
          exact ⟨mc76, mc53⟩
  · replace c3 := Bool.eq_false_iff.mpr c3
    subst c3
    rw [if_neg (show ¬ (false = true) by decide)] at H
    simp only [Option.some.injEq, Prod.mk.injEq] at H
    obtain ⟨rfl, rfl⟩ := H
    go_enter Tryz.func15, Tryz.ntmps15
    go_wp2_with (first | (go_at_call 29; (with_reducible refine (spec_l26Good.calls k _ _ l0 false _ ?side1 ?side2 A2.out).mono ?_); (case side1 => exact mc43); (case side2 => exact HC0.out); rintro e w14 ⟨rfl, hb⟩; replace HB := A_ (below_step mc53 hb); (try clear hb)))
    repeat (go_quiet (first | (go_at_call 29; (with_reducible refine (spec_l26Good.calls k _ _ l0 false _ ?side1 ?side2 A2.out).mono ?_); (case side1 => exact mc43); (case side2 => exact HC0.out); rintro e w14 ⟨rfl, hb⟩; replace HB := A_ (below_step mc53 hb); (try clear hb))); try go_wp2_with (first | (go_at_call 29; (with_reducible refine (spec_l26Good.calls k _ _ l0 false _ ?side1 ?side2 A2.out).mono ?_); (case side1 => exact mc43); (case side2 => exact HC0.out); rintro e w14 ⟨rfl, hb⟩; replace HB := A_ (below_step mc53 hb); (try clear hb))))
    go_ret2
    exact ⟨mc76, mc53⟩

end Go.Proofs.YtgmmanppmjlclaaGreatDoor.P
