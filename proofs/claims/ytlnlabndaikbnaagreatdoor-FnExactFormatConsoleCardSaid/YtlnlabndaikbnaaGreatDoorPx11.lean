-- Made by pp.py of this session out of the kit's print and of contracts proved by hand; Lean checks it.
import Derived.Test.YtlnlabndaikbnaaGreatDoorMc
import Derived.Test.YtlnlabndaikbnaaGreatDoorPx0
import Derived.Test.YtlnlabndaikbnaaGreatDoorPx4
import Derived.Test.YtlnlabndaikbnaaGreatDoorPx9
import Derived.Test.YtlnlabndaikbnaaGreatDoorPx10
namespace Go.Proofs.YtlnlabndaikbnaaGreatDoor.P
open Go.RowKit Go.Proofs.YtlnlabndaikbnaaGreatDoorW.PrintWords Go.Proofs.YtlnlabndaikbnaaGreatDoorW.PrintLast Go.Proofs.YtlnlabndaikbnaaGreatDoorW.PrintMore
attribute [local go_sem] max2_int min2_int max_two min_two max_three min_three max_four min_four   -- for this text's walks alone
set_option linter.unusedVariables false
set_option linter.unusedSimpArgs false

/-! ### spec_FormatConsole: function 11 -/
def spec_FormatConsole.l0 : Nat → ByteArray → Int → List (S73) → ByteArray → ByteArray → Int → Option (ByteArray × Bool)
 | 0, _, _, _, _, _, _ => none
 | k + 1, x4, x5, x200000, x200001, x200002, x200003 => if x5 < (x200000.length : Int) then (if 0 ≤ x5 then ((spec_l17Line.f ((rd_T73 x200000 x5).f0) ((rd_T73 x200000 x5).f1) ((rd_T73 x200000 x5).f2) ((rd_T73 x200000 x5).f3) ((rd_T73 x200000 x5).f4) ((rd_T73 x200000 x5).f5)).bind fun t202 => (if x4.size + t202.size ≤ 9223372036854775807 then (if (x4 ++ t202).size + 1 ≤ 9223372036854775807 then (spec_FormatConsole.l0 k ((x4 ++ t202) ++ (⟨#[10]⟩ : ByteArray)) (wrap64 (x5 + 1)) x200000 x200001 x200002 x200003) else (none)) else (none))) else (none)) else ((spec_l1Num.f x200003).bind fun t203 => (if x4.size + t203.size ≤ 9223372036854775807 then (if (x4 ++ t203).size + 1 ≤ 9223372036854775807 then (some ((x4 ++ t203) ++ (⟨#[10]⟩ : ByteArray), true)) else (none)) else (none)))
def spec_FormatConsole.f (k : Nat) (l0_0 : List (S73)) (a0_1 : ByteArray) (a0_2 : ByteArray) (a0_3 : Int) : Option (ByteArray × Bool) := (spec_l28Good.f k l0_0 a0_1 a0_2 a0_3).bind fun t200 => (if t200 = true then (spec_FormatConsole.l0 k (⟨#[]⟩ : ByteArray) 0 l0_0 a0_1 a0_2 a0_3) else (some ((⟨#[]⟩ : ByteArray), false)))
set_option maxHeartbeats 8000000 in
set_option maxRecDepth 100000 in
theorem spec_FormatConsole.calls (k : Nat) (A0_0 : Option Addr) (c0_0 : Nat) (l0_0 : List (S73)) (a0_1 : ByteArray) (a0_2 : ByteArray) (a0_3 : Int) (r1 : ByteArray) (r2 : Bool) (w : World) (hr0_0 : Kd.C k73 w A0_0 l0_0.length l0_0) (hc0_0 : l0_0.length ≤ c0_0) (h : spec_FormatConsole.f k l0_0 a0_1 a0_2 a0_3 = some (r1, r2)) :
  Calls Tryz.prog 11 #[.agg #[.slice A0_0 l0_0.length c0_0, .string a0_1, .string a0_2, .int .i64 a0_3]] w fun e w' => e = .returned (.tuple #[.string r1, .bool r2]) ∧ Below w.heap.size w w' := by
 have hu33 := Tryz.underlying33
 have hu73 := Tryz.underlying73
 have HR0_0 := A_ hr0_0
 have HC0_0 := A_ hc0_0
 clear hr0_0 hc0_0
 have HB := A_ (Below.refl w.heap.size w)
 have H : ((spec_l28Good.f k l0_0 a0_1 a0_2 a0_3).bind fun t200 => (if t200 = true then (spec_FormatConsole.l0 k (⟨#[]⟩ : ByteArray) 0 l0_0 a0_1 a0_2 a0_3) else (some ((⟨#[]⟩ : ByteArray), false)))) = some (r1, r2) := h
 clear h
 obtain ⟨t200, A20, H⟩ := oB_ H
 have A2 := A_ A20
 clear A20
 by_cases c3 : t200 = true
 ·
  subst c3
  rw [if_pos rfl] at H
  have H' := A_ H
  clear H
  go_enter Tryz.func11, Tryz.ntmps11
  go_wp2_with (first | ((with_reducible refine gd_ 1 rfl ?_); refine box_event rfl (N := 1) rfl (cs := #[.slice A0_0 l0_0.length c0_0, .string a0_1, .string a0_2, .int .i64 a0_3]) (t := 33) mc142 ?_; intro gb199 hg w4 hbox hb; have BK199 := A_ (hbox); have GW199 := A_ ((mc45 : w.heap.size ≤ gb199)); have GE199 := A_ ((mc45 : w.heap.size ≤ gb199)); replace HB := A_ (below_step mc89 hb); clear hb hbox hg; have hcz5_0 : w4.cell? ⟨gb199, 0, none⟩ = some (.slice A0_0 l0_0.length c0_0) := bc_ BK199 0 rfl; have hcz5_1 : w4.cell? ⟨gb199, 1, none⟩ = some (.string a0_1) := bc_ BK199 1 rfl; have hcz5_2 : w4.cell? ⟨gb199, 2, none⟩ = some (.string a0_2) := bc_ BK199 2 rfl; have hcz5_3 : w4.cell? ⟨gb199, 3, none⟩ = some (.int .i64 a0_3) := bc_ BK199 3 rfl; have hfz5_0 := blk_frozen BK199.out 0; have hfz5_1 := blk_frozen BK199.out 1; have hfz5_2 := blk_frozen BK199.out 2; have hfz5_3 := blk_frozen BK199.out 3) | ((with_reducible refine gc_ 44 rfl ?_); refine goesL_ (some 7) rfl rfl Tryz.func44 kr_ rfl #[.agg #[.slice A0_0 l0_0.length c0_0, .string a0_1, .string a0_2, .int .i64 a0_3]] rfl mc86 ?_; (with_reducible refine (spec_l28Good.calls k _ _ l0_0 a0_1 a0_2 a0_3 true _ ?side1 ?side2 A2.out).mono ?_); (case side1 => exact mc42); (case side2 => exact HC0_0.out); rintro e w6 ⟨rfl, hb⟩; refine ⟨_, rfl, ?_⟩; replace BK199 := A_ (blk_below mc98 hb); replace HB := A_ (below_step mc53 hb); (try clear hb)))
  go_loopg [4, 5] k (fun kq v4 v5 w' => ∃ (x4_1 : ByteArray) (x5_1 : Int), v4 = .string x4_1 ∧ v5 = .int .i64 x5_1 ∧ Aside0 (spec_FormatConsole.l0 kq x4_1 x5_1 l0_0 a0_1 a0_2 a0_3 = some (r1, r2)) ∧ Aside0 (kq ≤ k) ∧ Aside0 (w'.heap[gb199]? = some (.cells #[(.slice A0_0 l0_0.length c0_0), .string a0_1, .string a0_2, .int .i64 a0_3] 33 (0, 0))) ∧ Aside0 (Below w.heap.size w w'))
  case atStart => exact ⟨((⟨#[]⟩ : ByteArray)), (0), mc141, mc141, H', ⟨Nat.le_refl _⟩, ⟨mc98⟩, ⟨mc53⟩⟩
  case round =>
   clear H'
   try clear p2
   obtain ⟨x4_1, x5_1, rfl, rfl, HA, HK1, BK199, HB⟩ := hrel
   cases gk with
   | zero => exact absurd HA.out (by simp [spec_FormatConsole.l0])
   | succ k1 =>
    have H := HA.out
    clear HA
    simp only [spec_FormatConsole.l0] at H
    by_cases c7 : x5_1 < (l0_0.length : Int)
    ·
     rw [if_pos c7] at H
     have c7b0 : decide (x5_1 < (l0_0.length : Int)) = true := decide_eq_true c7
     clear c7
     by_cases c8 : 0 ≤ x5_1
     ·
      rw [if_pos c8] at H
      have c8b0 : decide (0 ≤ x5_1) = true := decide_eq_true c8
      clear c8
      obtain ⟨t202, A90, H⟩ := oB_ H
      have A9 := A_ A90
      clear A90
      by_cases c10 : x4_1.size + t202.size ≤ 9223372036854775807
      ·
       rw [if_pos c10] at H
       have c10b0 := eq_true c10
       have c10b1 : decide (x4_1.size + t202.size ≤ 9223372036854775807) = true := decide_eq_true c10
       try have c10b2 : (9223372036854775807 < x4_1.size + t202.size) = False := eq_false (Nat.not_lt.2 c10)
       by_cases c11 : (x4_1 ++ t202).size + 1 ≤ 9223372036854775807
       ·
        rw [if_pos c11] at H
        have c11b0 := eq_true c11
        have c11b1 : decide ((x4_1 ++ t202).size + 1 ≤ 9223372036854775807) = true := decide_eq_true c11
        try have c11b1z : decide ((x4_1.size + t202.size) + 1 ≤ 9223372036854775807) = true := by have h_ := c11b1; (try simp only [ByteArray.size_append] at h_); exact h_
        try have c11b2 : (9223372036854775807 < (x4_1 ++ t202).size + 1) = False := eq_false (Nat.not_lt.2 c11)
        try have c11b2z : (9223372036854775807 < (x4_1.size + t202.size) + 1) = False := by have h_ := c11b2; (try simp only [ByteArray.size_append] at h_); exact h_
        have H' := A_ H
        clear H
        have hcz12_0 : wr.cell? ⟨gb199, 0, none⟩ = some (.slice A0_0 l0_0.length c0_0) := bc_ BK199 0 rfl
        have hcz12_1 : wr.cell? ⟨gb199, 1, none⟩ = some (.string a0_1) := bc_ BK199 1 rfl
        have hcz12_2 : wr.cell? ⟨gb199, 2, none⟩ = some (.string a0_2) := bc_ BK199 2 rfl
        have hcz12_3 : wr.cell? ⟨gb199, 3, none⟩ = some (.int .i64 a0_3) := bc_ BK199 3 rfl
        have hfz12_0 := blk_frozen BK199.out 0
        have hfz12_1 := blk_frozen BK199.out 1
        have hfz12_2 := blk_frozen BK199.out 2
        have hfz12_3 := blk_frozen BK199.out 3
        have p201 : 0 ≤ (x5_1 : Int) := of_decide_eq_true mc139
        have q201 : x5_1 < (l0_0.length : Int) := of_decide_eq_true mc139
        obtain ⟨ad201, e201, hx201_0, hx201_1, hx201_2, hx201_3, hx201_4, hx201_5⟩ := at_T73 HR0_0.out x5_1 p201 q201
        cases e201
        replace hx201_0 := (HB.out.cell (World.block_lt_of_cell? w _ hx201_0)).trans hx201_0
        replace hx201_1 := (HB.out.cell (World.block_lt_of_cell? w _ hx201_1)).trans hx201_1
        replace hx201_2 := (HB.out.cell (World.block_lt_of_cell? w _ hx201_2)).trans hx201_2
        replace hx201_3 := (HB.out.cell (World.block_lt_of_cell? w _ hx201_3)).trans hx201_3
        replace hx201_4 := (HB.out.cell (World.block_lt_of_cell? w _ hx201_4)).trans hx201_4
        replace hx201_5 := (HB.out.cell (World.block_lt_of_cell? w _ hx201_5)).trans hx201_5
        replace p201 := eq_true p201
        replace q201 := eq_true q201
        go_wp2_with (first | ((with_reducible refine gc_ 45 rfl ?_); refine goesL_ (some 22) rfl rfl Tryz.func45 kr_ rfl #[.agg #[.int .i64 ((rd_T73 l0_0 x5_1).f0), .int .i64 ((rd_T73 l0_0 x5_1).f1), .int .i64 ((rd_T73 l0_0 x5_1).f2), .int .i64 ((rd_T73 l0_0 x5_1).f3), .int .i64 ((rd_T73 l0_0 x5_1).f4), .int .i64 ((rd_T73 l0_0 x5_1).f5)]] rfl mc86 ?_; (with_reducible refine (spec_l17Line.calls ((rd_T73 l0_0 x5_1).f0) ((rd_T73 l0_0 x5_1).f1) ((rd_T73 l0_0 x5_1).f2) ((rd_T73 l0_0 x5_1).f3) ((rd_T73 l0_0 x5_1).f4) ((rd_T73 l0_0 x5_1).f5) t202 _ A9.out).mono ?_); rintro e w13 ⟨rfl, hb⟩; refine ⟨_, rfl, ?_⟩; replace BK199 := A_ (blk_below mc98 hb); replace HB := A_ (below_step mc53 hb); (try clear hb)))
        go_roundg k1
        case measure => have := HK1.out; omega
        case rel => exact ⟨((x4_1 ++ t202) ++ (⟨#[10]⟩ : ByteArray)), (wrap64 (x5_1 + 1)), mc141, mc141, H', ⟨mc144⟩, ⟨mc98⟩, ⟨mc53⟩⟩
       ·
        rw [if_neg c11] at H
        exact absurd H (by simp)
      ·
       rw [if_neg c10] at H
       exact absurd H (by simp)
     ·
      rw [if_neg c8] at H
      exact absurd H (by simp)
    ·
     rw [if_neg c7] at H
     have c7b0 : decide (x5_1 < (l0_0.length : Int)) = false := decide_eq_false c7
     clear c7
     obtain ⟨t203, A140, H⟩ := oB_ H
     have A14 := A_ A140
     clear A140
     by_cases c15 : x4_1.size + t203.size ≤ 9223372036854775807
     ·
      rw [if_pos c15] at H
      have c15b0 := eq_true c15
      have c15b1 : decide (x4_1.size + t203.size ≤ 9223372036854775807) = true := decide_eq_true c15
      try have c15b2 : (9223372036854775807 < x4_1.size + t203.size) = False := eq_false (Nat.not_lt.2 c15)
      by_cases c16 : (x4_1 ++ t203).size + 1 ≤ 9223372036854775807
      ·
       rw [if_pos c16] at H
       have c16b0 := eq_true c16
       have c16b1 : decide ((x4_1 ++ t203).size + 1 ≤ 9223372036854775807) = true := decide_eq_true c16
       try have c16b1z : decide ((x4_1.size + t203.size) + 1 ≤ 9223372036854775807) = true := by have h_ := c16b1; (try simp only [ByteArray.size_append] at h_); exact h_
       try have c16b2 : (9223372036854775807 < (x4_1 ++ t203).size + 1) = False := eq_false (Nat.not_lt.2 c16)
       try have c16b2z : (9223372036854775807 < (x4_1.size + t203.size) + 1) = False := by have h_ := c16b2; (try simp only [ByteArray.size_append] at h_); exact h_
       simp only [Option.some.injEq, Prod.mk.injEq] at H
       obtain ⟨rfl, rfl⟩ := H
       have hcz17_0 : wr.cell? ⟨gb199, 0, none⟩ = some (.slice A0_0 l0_0.length c0_0) := bc_ BK199 0 rfl
       have hcz17_1 : wr.cell? ⟨gb199, 1, none⟩ = some (.string a0_1) := bc_ BK199 1 rfl
       have hcz17_2 : wr.cell? ⟨gb199, 2, none⟩ = some (.string a0_2) := bc_ BK199 2 rfl
       have hcz17_3 : wr.cell? ⟨gb199, 3, none⟩ = some (.int .i64 a0_3) := bc_ BK199 3 rfl
       have hfz17_0 := blk_frozen BK199.out 0
       have hfz17_1 := blk_frozen BK199.out 1
       have hfz17_2 := blk_frozen BK199.out 2
       have hfz17_3 := blk_frozen BK199.out 3
       go_wp2_with (first | ((with_reducible refine gc_ 46 rfl ?_); refine goesL_ (some 29) rfl rfl Tryz.func46 kr_ rfl #[.int .i64 a0_3] rfl mc86 ?_; (with_reducible refine (spec_l1Num.calls a0_3 t203 _ A14.out).mono ?_); rintro e w' ⟨rfl, ⟨nd, rfl⟩⟩; refine ⟨_, rfl, ?_⟩))
       go_ret2
       exact ⟨mc133, mc53⟩
      ·
       rw [if_neg c16] at H
       exact absurd H (by simp)
     ·
      rw [if_neg c15] at H
      exact absurd H (by simp)
 ·
  replace c3 := Bool.eq_false_iff.mpr c3
  subst c3
  rw [if_neg (show ¬ (false = true) by decide)] at H
  simp only [Option.some.injEq, Prod.mk.injEq] at H
  obtain ⟨rfl, rfl⟩ := H
  go_enter Tryz.func11, Tryz.ntmps11
  go_wp2_with (first | ((with_reducible refine gd_ 1 rfl ?_); refine box_event rfl (N := 1) rfl (cs := #[.slice A0_0 l0_0.length c0_0, .string a0_1, .string a0_2, .int .i64 a0_3]) (t := 33) mc142 ?_; intro gb199 hg w18 hbox hb; have BK199 := A_ (hbox); have GW199 := A_ ((mc45 : w.heap.size ≤ gb199)); have GE199 := A_ ((mc45 : w.heap.size ≤ gb199)); replace HB := A_ (below_step mc89 hb); clear hb hbox hg; have hcz19_0 : w18.cell? ⟨gb199, 0, none⟩ = some (.slice A0_0 l0_0.length c0_0) := bc_ BK199 0 rfl; have hcz19_1 : w18.cell? ⟨gb199, 1, none⟩ = some (.string a0_1) := bc_ BK199 1 rfl; have hcz19_2 : w18.cell? ⟨gb199, 2, none⟩ = some (.string a0_2) := bc_ BK199 2 rfl; have hcz19_3 : w18.cell? ⟨gb199, 3, none⟩ = some (.int .i64 a0_3) := bc_ BK199 3 rfl; have hfz19_0 := blk_frozen BK199.out 0; have hfz19_1 := blk_frozen BK199.out 1; have hfz19_2 := blk_frozen BK199.out 2; have hfz19_3 := blk_frozen BK199.out 3) | ((with_reducible refine gc_ 44 rfl ?_); refine goesL_ (some 7) rfl rfl Tryz.func44 kr_ rfl #[.agg #[.slice A0_0 l0_0.length c0_0, .string a0_1, .string a0_2, .int .i64 a0_3]] rfl mc86 ?_; (with_reducible refine (spec_l28Good.calls k _ _ l0_0 a0_1 a0_2 a0_3 false _ ?side1 ?side2 A2.out).mono ?_); (case side1 => exact mc42); (case side2 => exact HC0_0.out); rintro e w20 ⟨rfl, hb⟩; refine ⟨_, rfl, ?_⟩; replace BK199 := A_ (blk_below mc98 hb); replace HB := A_ (below_step mc53 hb); (try clear hb)))
  go_ret2
  exact ⟨mc133, mc53⟩

/-! ### laws_toWarning: function 52 -/
def laws_toWarning.f (a0_0 : Int) (a0_1 : Int) (a0_2 : Int) (a0_3 : Int) (a0_4 : Int) (a0_5 : Int) : Option (Int × Int × Int × Int × Int × Int) := some (a0_0, a0_1, a0_2, a0_3, a0_4, a0_5)
set_option maxHeartbeats 8000000 in
set_option maxRecDepth 100000 in
theorem laws_toWarning.calls (a0_0 : Int) (a0_1 : Int) (a0_2 : Int) (a0_3 : Int) (a0_4 : Int) (a0_5 : Int) (r1 : Int) (r2 : Int) (r3 : Int) (r4 : Int) (r5 : Int) (r6 : Int) (w : World) (h : laws_toWarning.f a0_0 a0_1 a0_2 a0_3 a0_4 a0_5 = some (r1, r2, r3, r4, r5, r6)) :
  Calls Tryz.prog 52 #[.agg #[.int .i64 a0_0, .int .i64 a0_1, .int .i64 a0_2, .int .i64 a0_3, .int .i64 a0_4, .int .i64 a0_5]] w fun e w' => e = .returned (.agg #[.int .i64 r1, .int .i64 r2, .int .i64 r3, .int .i64 r4, .int .i64 r5, .int .i64 r6]) ∧ Below w.heap.size w w' := by
 have hu78 := Tryz.underlying78
 have hu73 := Tryz.underlying73
 have HB := A_ (Below.refl w.heap.size w)
 have H : (some (a0_0, a0_1, a0_2, a0_3, a0_4, a0_5)) = some (r1, r2, r3, r4, r5, r6) := h
 clear h
 simp only [Option.some.injEq, Prod.mk.injEq] at H
 obtain ⟨rfl, rfl, rfl, rfl, rfl, rfl⟩ := H
 go_enter Tryz.func52, Tryz.ntmps52
 go_wp2_with (first | ((with_reducible refine gd_ 1 rfl ?_); refine box_event rfl (N := 1) rfl (cs := #[.int .i64 a0_0, .int .i64 a0_1, .int .i64 a0_2, .int .i64 a0_3, .int .i64 a0_4, .int .i64 a0_5]) (t := 78) mc142 ?_; intro gb204 hg w2 hbox hb; have BK204 := A_ (hbox); have GW204 := A_ ((mc45 : w.heap.size ≤ gb204)); have GE204 := A_ ((mc45 : w.heap.size ≤ gb204)); replace HB := A_ (below_step mc89 hb); clear hb hbox hg) | ((with_reducible refine gd_ 2 rfl ?_); refine box_event rfl (N := 2) rfl (cs := #[.int .i64 0, .int .i64 0, .int .i64 0, .int .i64 0, .int .i64 0, .int .i64 0]) (t := 73) mc142 ?_; intro gb205 hg w3 hbox hb; have BK205 := A_ (hbox); have GW205 := A_ ((mc21 : w.heap.size ≤ gb205)); have GE205 := A_ ((mc21 : w.heap.size ≤ gb205)); replace HB := A_ (below_step mc54 hb); have NB204_205 := A_ ((by rw [hg]; exact Nat.ne_of_lt (blk_lt mc99) : gb204 ≠ gb205)); have NB205_204 := A_ ((by rw [hg]; exact Nat.ne_of_gt (blk_lt mc99) : gb205 ≠ gb204)); replace BK204 := A_ (blk_below mc99 hb); clear hb hbox hg) | ((with_reducible refine gd_ 3 rfl ?_); refine box_event rfl (N := 3) rfl (cs := #[.int .i64 0, .int .i64 0, .int .i64 0, .int .i64 0, .int .i64 0, .int .i64 0]) (t := 73) mc142 ?_; intro gb206 hg w4 hbox hb; have BK206 := A_ (hbox); have GW206 := A_ ((mc15 : w.heap.size ≤ gb206)); have GE206 := A_ ((mc15 : w.heap.size ≤ gb206)); replace HB := A_ (below_step mc31 hb); have NB204_206 := A_ ((by rw [hg]; exact Nat.ne_of_lt (blk_lt mc99) : gb204 ≠ gb206)); have NB206_204 := A_ ((by rw [hg]; exact Nat.ne_of_gt (blk_lt mc99) : gb206 ≠ gb204)); replace BK204 := A_ (blk_below mc99 hb); have NB205_206 := A_ ((by rw [hg]; exact Nat.ne_of_lt (blk_lt mc100) : gb205 ≠ gb206)); have NB206_205 := A_ ((by rw [hg]; exact Nat.ne_of_gt (blk_lt mc100) : gb206 ≠ gb205)); replace BK205 := A_ (blk_below mc100 hb); clear hb hbox hg; have hnb5 := NB204_205.out; have hnc5 := NB205_204.out; have hnb6 := NB204_206.out; have hnc6 := NB206_204.out; have hcz7_0 : w4.cell? ⟨gb204, 0, none⟩ = some (.int .i64 a0_0) := bc_ BK204 0 rfl; have hcz7_1 : w4.cell? ⟨gb204, 1, none⟩ = some (.int .i64 a0_1) := bc_ BK204 1 rfl; have hcz7_2 : w4.cell? ⟨gb204, 2, none⟩ = some (.int .i64 a0_2) := bc_ BK204 2 rfl; have hcz7_3 : w4.cell? ⟨gb204, 3, none⟩ = some (.int .i64 a0_3) := bc_ BK204 3 rfl; have hcz7_4 : w4.cell? ⟨gb204, 4, none⟩ = some (.int .i64 a0_4) := bc_ BK204 4 rfl; have hcz7_5 : w4.cell? ⟨gb204, 5, none⟩ = some (.int .i64 a0_5) := bc_ BK204 5 rfl; have hfz7_0 := blk_frozen BK204.out 0; have hfz7_1 := blk_frozen BK204.out 1; have hfz7_2 := blk_frozen BK204.out 2; have hfz7_3 := blk_frozen BK204.out 3; have hfz7_4 := blk_frozen BK204.out 4; have hfz7_5 := blk_frozen BK204.out 5; have hnb8 := NB206_205.out; have hnc8 := NB205_206.out; have hcz9_0 : w4.cell? ⟨gb206, 0, none⟩ = some (.int .i64 0) := bc_ BK206 0 rfl; have hcz9_1 : w4.cell? ⟨gb206, 1, none⟩ = some (.int .i64 0) := bc_ BK206 1 rfl; have hcz9_2 : w4.cell? ⟨gb206, 2, none⟩ = some (.int .i64 0) := bc_ BK206 2 rfl; have hcz9_3 : w4.cell? ⟨gb206, 3, none⟩ = some (.int .i64 0) := bc_ BK206 3 rfl; have hcz9_4 : w4.cell? ⟨gb206, 4, none⟩ = some (.int .i64 0) := bc_ BK206 4 rfl; have hcz9_5 : w4.cell? ⟨gb206, 5, none⟩ = some (.int .i64 0) := bc_ BK206 5 rfl; have hfz9_0 := blk_frozen BK206.out 0; have hfz9_1 := blk_frozen BK206.out 1; have hfz9_2 := blk_frozen BK206.out 2; have hfz9_3 := blk_frozen BK206.out 3; have hfz9_4 := blk_frozen BK206.out 4; have hfz9_5 := blk_frozen BK206.out 5; have hcz10_0 : w4.cell? ⟨gb205, 0, none⟩ = some (.int .i64 0) := bc_ BK205 0 rfl; have hcz10_1 : w4.cell? ⟨gb205, 1, none⟩ = some (.int .i64 0) := bc_ BK205 1 rfl; have hcz10_2 : w4.cell? ⟨gb205, 2, none⟩ = some (.int .i64 0) := bc_ BK205 2 rfl; have hcz10_3 : w4.cell? ⟨gb205, 3, none⟩ = some (.int .i64 0) := bc_ BK205 3 rfl; have hcz10_4 : w4.cell? ⟨gb205, 4, none⟩ = some (.int .i64 0) := bc_ BK205 4 rfl; have hcz10_5 : w4.cell? ⟨gb205, 5, none⟩ = some (.int .i64 0) := bc_ BK205 5 rfl; have hfz10_0 := blk_frozen BK205.out 0; have hfz10_1 := blk_frozen BK205.out 1; have hfz10_2 := blk_frozen BK205.out 2; have hfz10_3 := blk_frozen BK205.out 3; have hfz10_4 := blk_frozen BK205.out 4; have hfz10_5 := blk_frozen BK205.out 5))
 refine bodyPost_ret (results_cell_row rfl _ _ gb205 73 #[.int .i64 a0_0, .int .i64 a0_1, .int .i64 a0_2, .int .i64 a0_3, .int .i64 a0_4, .int .i64 a0_5] (0, 0) _ rfl (by (with_reducible repeat (first | refine blk_drewN ?_ _ | refine blk_drew ?_ | refine blk_alloc ?_ _)); refine blk_put (cs := #[.int .i64 a0_0, .int .i64 a0_1, .int .i64 a0_2, .int .i64 a0_3, .int .i64 a0_4, .int .i64 0]) ?_ 5 _ rfl; (with_reducible repeat (first | refine blk_drewN ?_ _ | refine blk_drew ?_ | refine blk_alloc ?_ _)); refine blk_put (cs := #[.int .i64 a0_0, .int .i64 a0_1, .int .i64 a0_2, .int .i64 a0_3, .int .i64 0, .int .i64 0]) ?_ 4 _ rfl; (with_reducible repeat (first | refine blk_drewN ?_ _ | refine blk_drew ?_ | refine blk_alloc ?_ _)); refine blk_put (cs := #[.int .i64 a0_0, .int .i64 a0_1, .int .i64 a0_2, .int .i64 0, .int .i64 0, .int .i64 0]) ?_ 3 _ rfl; (with_reducible repeat (first | refine blk_drewN ?_ _ | refine blk_drew ?_ | refine blk_alloc ?_ _)); refine blk_put (cs := #[.int .i64 a0_0, .int .i64 a0_1, .int .i64 0, .int .i64 0, .int .i64 0, .int .i64 0]) ?_ 2 _ rfl; (with_reducible repeat (first | refine blk_drewN ?_ _ | refine blk_drew ?_ | refine blk_alloc ?_ _)); refine blk_put (cs := #[.int .i64 a0_0, .int .i64 0, .int .i64 0, .int .i64 0, .int .i64 0, .int .i64 0]) ?_ 1 _ rfl; (with_reducible repeat (first | refine blk_drewN ?_ _ | refine blk_drew ?_ | refine blk_alloc ?_ _)); refine blk_put (cs := #[.int .i64 0, .int .i64 0, .int .i64 0, .int .i64 0, .int .i64 0, .int .i64 0]) ?_ 0 _ rfl; (with_reducible repeat (first | refine blk_drewN ?_ _ | refine blk_drew ?_ | refine blk_alloc ?_ _)); refine blk_far ?_ NB205_206.out _; (with_reducible repeat (first | refine blk_drewN ?_ _ | refine blk_drew ?_ | refine blk_alloc ?_ _)); refine blk_far ?_ NB205_206.out _; (with_reducible repeat (first | refine blk_drewN ?_ _ | refine blk_drew ?_ | refine blk_alloc ?_ _)); refine blk_far ?_ NB205_206.out _; (with_reducible repeat (first | refine blk_drewN ?_ _ | refine blk_drew ?_ | refine blk_alloc ?_ _)); refine blk_far ?_ NB205_206.out _; (with_reducible repeat (first | refine blk_drewN ?_ _ | refine blk_drew ?_ | refine blk_alloc ?_ _)); refine blk_far ?_ NB205_206.out _; (with_reducible repeat (first | refine blk_drewN ?_ _ | refine blk_drew ?_ | refine blk_alloc ?_ _)); refine blk_far ?_ NB205_206.out _; (with_reducible repeat (first | refine blk_drewN ?_ _ | refine blk_drew ?_ | refine blk_alloc ?_ _)); exact BK205.out) Tryz.underlying73 rfl kr_) rfl ?_
 exact ⟨mc133, by repeat (first | (with_reducible first | exact HB.out | apply below_alloc | apply pw_below_drewN | apply below_drew1 | refine below_set ?_ GE204.out | refine below_set ?_ GE205.out | refine below_set ?_ GE206.out) | exact HB.out)⟩

/-! ### laws_toWarningS: function 18 -/
def laws_toWarningS.l0 : Nat → List (S78) → List (S73) → Int → Option ((List (S73)))
 | 0, _, _, _ => none
 | k + 1, x0, x3, x4 => if x4 < (x0.length : Int) then (if 0 ≤ x4 then ((laws_toWarning.f ((rd_T78 x0 x4).f0) ((rd_T78 x0 x4).f1) ((rd_T78 x0 x4).f2) ((rd_T78 x0 x4).f3) ((rd_T78 x0 x4).f4) ((rd_T78 x0 x4).f5)).bind fun bt211 => (if x4 < (x3.length : Int) then (laws_toWarningS.l0 k x0 (x3.set (x4 : Int).toNat (⟨bt211.1, bt211.2.1, bt211.2.2.1, bt211.2.2.2.1, bt211.2.2.2.2.1, bt211.2.2.2.2.2⟩ : S73)) (wrap64 (x4 + 1))) else (none))) else (none)) else (some x3)
def laws_toWarningS.f (k : Nat) (l0 : List (S78)) : Option ((List (S73))) := if 0 ≤ (l0.length : Int) then (if ((l0.length : Int) : Int).toNat ≤ 5864062014805 then (laws_toWarningS.l0 k l0 (List.replicate ((l0.length : Int) : Int).toNat z73) 0) else (none)) else (none)
set_option maxHeartbeats 8000000 in
set_option maxRecDepth 100000 in
theorem laws_toWarningS.calls (k : Nat) (A0 : Option Addr) (c0 : Nat) (l0 : List (S78)) (r : List (S73)) (w : World) (hr0 : Kd.C k78 w A0 l0.length l0) (hc0 : l0.length ≤ c0) (h : laws_toWarningS.f k l0 = some r) :
  Calls Tryz.prog 18 #[.slice A0 l0.length c0] w fun e w' => ∃ v0_ : Value, e = .returned (v0_) ∧ Kd.R k73 73 w' w.heap.size (fun _ => True) v0_ r ∧ Below w.heap.size w w' := by
 have hu78 := Tryz.underlying78
 have hu73 := Tryz.underlying73
 have HR0 := A_ hr0
 have HC0 := A_ hc0
 clear hr0 hc0
 have HB := A_ (Below.refl w.heap.size w)
 have H : (if 0 ≤ (l0.length : Int) then (if ((l0.length : Int) : Int).toNat ≤ 5864062014805 then (laws_toWarningS.l0 k l0 (List.replicate ((l0.length : Int) : Int).toNat z73) 0) else (none)) else (none)) = some r := h
 clear h
 by_cases c2 : 0 ≤ (l0.length : Int)
 ·
  rw [if_pos c2] at H
  have c2b0 := eq_true c2
  have c2b1 : decide (0 ≤ (l0.length : Int)) = true := decide_eq_true c2
  clear c2
  by_cases c3 : ((l0.length : Int) : Int).toNat ≤ 5864062014805
  ·
   rw [if_pos c3] at H
   have c3b0 := eq_true c3
   have c3b1 : decide (((l0.length : Int) : Int).toNat ≤ 5864062014805) = true := decide_eq_true c3
   clear c3
   obtain ⟨y207, hy207⟩ : ∃ y_ : List (S73), y_ = (List.replicate ((l0.length : Int) : Int).toNat z73) := ⟨_, rfl⟩
   replace H : (laws_toWarningS.l0 k l0 y207 0) = some r := by first | (rw [hy207]; with_reducible exact H) | (have H2_ := (Option.bind_some _ _).symm.trans H; rw [hy207]; with_reducible exact H2_) | (have H2_ := (Option.bind_some _ _).symm.trans H; with_reducible exact H2_) | with_reducible exact H | (rw [hy207]; exact H) | exact H
   have Ny207 := A_ hy207
   clear hy207
   have H' := A_ H
   clear H
   go_enter Tryz.func18, Tryz.ntmps18
   go_wp2_with (first | ((with_reducible refine gd_ 7 rfl ?_); refine Kd.R_make k73 _ 73 rfl (N := 7) rfl 30 _ _ rfl (l0.length : Int) rfl rfl Tryz.underlying30 (.agg #[(.int .i64 0), (.int .i64 0), (.int .i64 0), (.int .i64 0), (.int .i64 0), (.int .i64 0)]) 48 info73 rfl (by decide) (by omega) z73 (ok := fun _ => True) (okp := fun _ => True) (k73_mkM _ _ _ z73 ) (fun _ hk => hk) trivial (of_decide_eq_true mc139) (Nat.le_trans (Nat.mul_le_mul_right _ (of_decide_eq_true mc139 : (l0.length : Int).toNat ≤ 5864062014805)) (by omega)) (Below.refl _ _) (Nat.le_refl _) ?_; intro v208 w4 ho5 hb hg_ hnew_; clear hg_ hnew_; (first | rw [← Ny207.out] at ho5 | (simp only [Int.reduceToNat] at ho5; rw [← Ny207.out] at ho5)); have HO209 := A_ (Kd.R_lower ho5 (below_size mc89)); replace HB := A_ (below_step mc89 hb); clear hb ho5))
   go_loopg [4] k (fun kq v4 w' => ∃ (x3_1 : List (S73)) (x4_1 : Int), v4 = .int .i64 x4_1 ∧ Aside0 (laws_toWarningS.l0 kq l0 x3_1 x4_1 = some r) ∧ Aside0 (kq ≤ k) ∧ Aside0 (Kd.R k73 73 w' w.heap.size (fun _ => True) v208 x3_1) ∧ Aside0 (Below w.heap.size w w'))
   case atStart => exact ⟨(y207), (0), mc141, H', ⟨Nat.le_refl _⟩, ⟨by (with_reducible repeat (first | apply Kd.R_alloc | apply Kd.R_drewN | apply Kd.R_drew)); exact HO209.out⟩, ⟨mc89⟩⟩
   case round =>
    clear H'
    try clear c2b0
    try clear c2b1
    try clear p2
    try clear c3b0
    try clear c3b1
    obtain ⟨x3_1, x4_1, rfl, HA, HK1, HO_3, HB⟩ := hrel
    cases gk with
    | zero => exact absurd HA.out (by simp [laws_toWarningS.l0])
    | succ k1 =>
     have H := HA.out
     clear HA
     simp only [laws_toWarningS.l0] at H
     by_cases c6 : x4_1 < (l0.length : Int)
     ·
      rw [if_pos c6] at H
      have c6b0 : decide (x4_1 < (l0.length : Int)) = true := decide_eq_true c6
      clear c6
      by_cases c7 : 0 ≤ x4_1
      ·
       rw [if_pos c7] at H
       have c7b0 : decide (0 ≤ x4_1) = true := decide_eq_true c7
       clear c7
       obtain ⟨⟨t211, t212, t213, t214, t215, t216⟩, A80, H⟩ := oB_ H
       have A8 := A_ A80
       clear A80
       by_cases c9 : x4_1 < (x3_1.length : Int)
       ·
        rw [if_pos c9] at H
        have c9b0 : decide (x4_1 < (x3_1.length : Int)) = true := decide_eq_true c9
        clear c9
        obtain ⟨y217, hy217⟩ : ∃ y_ : List (S73), y_ = (x3_1.set (x4_1 : Int).toNat (⟨t211, t212, t213, t214, t215, t216⟩ : S73)) := ⟨_, rfl⟩
        replace H : (laws_toWarningS.l0 k1 l0 y217 (wrap64 (x4_1 + 1))) = some r := by first | (rw [hy217]; with_reducible exact H) | (have H2_ := (Option.bind_some _ _).symm.trans H; rw [hy217]; with_reducible exact H2_) | (have H2_ := (Option.bind_some _ _).symm.trans H; with_reducible exact H2_) | with_reducible exact H | (rw [hy217]; exact H) | exact H
        have Ny217 := A_ hy217
        clear hy217
        have H' := A_ H
        clear H
        have p210 : 0 ≤ (x4_1 : Int) := of_decide_eq_true mc139
        have q210 : x4_1 < (l0.length : Int) := of_decide_eq_true mc139
        obtain ⟨ad210, e210, hx210_0, hx210_1, hx210_2, hx210_3, hx210_4, hx210_5⟩ := at_T78 HR0.out x4_1 p210 q210
        cases e210
        replace hx210_0 := (HB.out.cell (World.block_lt_of_cell? w _ hx210_0)).trans hx210_0
        replace hx210_1 := (HB.out.cell (World.block_lt_of_cell? w _ hx210_1)).trans hx210_1
        replace hx210_2 := (HB.out.cell (World.block_lt_of_cell? w _ hx210_2)).trans hx210_2
        replace hx210_3 := (HB.out.cell (World.block_lt_of_cell? w _ hx210_3)).trans hx210_3
        replace hx210_4 := (HB.out.cell (World.block_lt_of_cell? w _ hx210_4)).trans hx210_4
        replace hx210_5 := (HB.out.cell (World.block_lt_of_cell? w _ hx210_5)).trans hx210_5
        replace p210 := eq_true p210
        replace q210 := eq_true q210
        go_wp2_with (first | ((with_reducible refine gc_ 52 rfl ?_); refine goesL_ (some 20) rfl rfl Tryz.func52 kr_ rfl #[.agg #[.int .i64 ((rd_T78 l0 x4_1).f0), .int .i64 ((rd_T78 l0 x4_1).f1), .int .i64 ((rd_T78 l0 x4_1).f2), .int .i64 ((rd_T78 l0 x4_1).f3), .int .i64 ((rd_T78 l0 x4_1).f4), .int .i64 ((rd_T78 l0 x4_1).f5)]] rfl mc86 ?_; (with_reducible refine (laws_toWarning.calls ((rd_T78 l0 x4_1).f0) ((rd_T78 l0 x4_1).f1) ((rd_T78 l0 x4_1).f2) ((rd_T78 l0 x4_1).f3) ((rd_T78 l0 x4_1).f4) ((rd_T78 l0 x4_1).f5) t211 t212 t213 t214 t215 t216 _ A8.out).mono ?_); rintro e w11 ⟨rfl, hb⟩; refine ⟨_, rfl, ?_⟩; replace HO_3 := A_ (Kd.R_below mc132 hb); replace HB := A_ (below_step mc89 hb); (try clear hb); have p10 : 0 ≤ (x4_1 : Int) := of_decide_eq_true mc139; have q10 : (x4_1 : Int) < ((x3_1.length : Int) : Int) := of_decide_eq_true mc139; obtain ⟨go10, co10, eo10, gb10, gl10, cl10, HG10⟩ := Kd.R_form HO_3.out (by omega); (first | cases eo10 | (injection eo10 with ea_ en_ ec_; (first | subst ea_ | (injection ea_ with ea_; subst ea_)); subst ec_; clear en_)); have GB10 := A_ gb10; have GG10 := A_ HG10; clear gb10 gl10 HG10; obtain ⟨ce10, hcl10, hM10, hcc10, hfr10⟩ := Kd.R_elem HO_3.out z73 (x4_1 : Int) p10 q10; obtain rfl := k73_openM hM10; have hx10_0 : w11.cell? ⟨go10, (x4_1 : Int).toNat * 6, none⟩ = some (.int .i64 ((rd_T73 x3_1 x4_1).f0)) := hcc10 0 _ rfl; have hx10_1 : w11.cell? ⟨go10, (x4_1 : Int).toNat * 6 + 1, none⟩ = some (.int .i64 ((rd_T73 x3_1 x4_1).f1)) := hcc10 1 _ rfl; have hx10_2 : w11.cell? ⟨go10, (x4_1 : Int).toNat * 6 + 2, none⟩ = some (.int .i64 ((rd_T73 x3_1 x4_1).f2)) := hcc10 2 _ rfl; have hx10_3 : w11.cell? ⟨go10, (x4_1 : Int).toNat * 6 + 3, none⟩ = some (.int .i64 ((rd_T73 x3_1 x4_1).f3)) := hcc10 3 _ rfl; have hx10_4 : w11.cell? ⟨go10, (x4_1 : Int).toNat * 6 + 4, none⟩ = some (.int .i64 ((rd_T73 x3_1 x4_1).f4)) := hcc10 4 _ rfl; have hx10_5 : w11.cell? ⟨go10, (x4_1 : Int).toNat * 6 + 5, none⟩ = some (.int .i64 ((rd_T73 x3_1 x4_1).f5)) := hcc10 5 _ rfl; have hf10_0 : w11.frozen? ⟨go10, (x4_1 : Int).toNat * 6, none⟩ = false := hfr10 0; have hf10_1 : w11.frozen? ⟨go10, (x4_1 : Int).toNat * 6 + 1, none⟩ = false := hfr10 1; have hf10_2 : w11.frozen? ⟨go10, (x4_1 : Int).toNat * 6 + 2, none⟩ = false := hfr10 2; have hf10_3 : w11.frozen? ⟨go10, (x4_1 : Int).toNat * 6 + 3, none⟩ = false := hfr10 3; have hf10_4 : w11.frozen? ⟨go10, (x4_1 : Int).toNat * 6 + 4, none⟩ = false := hfr10 4; have hf10_5 : w11.frozen? ⟨go10, (x4_1 : Int).toNat * 6 + 5, none⟩ = false := hfr10 5; clear hcl10 hcc10 hfr10 hM10; replace p10 := eq_true p10; replace q10 := eq_true q10; have HX12 := A_ (show Kd.R k73 73 w11 w.heap.size (fun _ => True) (.slice (some ⟨go10, 0, none⟩) x3_1.length co10) x3_1 from mc132); obtain ⟨ce12, hcl12, hM12, hcc12, hfr12⟩ := Kd.R_elem HX12.out z73 (x4_1 : Int) (of_decide_eq_true mc139) (by have h_ : (x4_1 : Int) < ((x3_1.length : Int) : Int) := of_decide_eq_true mc139; first | exact h_ | (have e_ := (Kd.R_reads' HO_3.out).1; omega) | simpa using h_); obtain rfl := k73_openM hM12; have HP12 := Kd.R_seg HX12.out (x4_1 : Int) (of_decide_eq_true mc139) (by have h_ : (x4_1 : Int) < ((x3_1.length : Int) : Int) := of_decide_eq_true mc139; first | exact h_ | (have e_ := (Kd.R_reads' HO_3.out).1; omega) | simpa using h_) (seg := [.int .i64 t211, .int .i64 t212, .int .i64 t213, .int .i64 t214, .int .i64 t215, .int .i64 t216]) (j := 0) hcl12 hcc12 (show 6 ≤ 6 from by decide) (x' := (⟨t211, t212, t213, t214, t215, t216⟩ : S73)) (k73_mkM _ _ _ (⟨t211, t212, t213, t214, t215, t216⟩ : S73) ) (fun _ hk => hk); have hx12_0 := hcc12 0 _ rfl; (try simp only [show (k73).sz = 6 from rfl, Nat.mul_one, Nat.add_zero] at hx12_0); have hf12_0 := hfr12 0; (try simp only [show (k73).sz = 6 from rfl, Nat.mul_one, Nat.add_zero] at hf12_0); have hx12_1 := hcc12 1 _ rfl; (try simp only [show (k73).sz = 6 from rfl, Nat.mul_one, Nat.add_zero] at hx12_1); have hf12_1 := hfr12 1; (try simp only [show (k73).sz = 6 from rfl, Nat.mul_one, Nat.add_zero] at hf12_1); have hx12_2 := hcc12 2 _ rfl; (try simp only [show (k73).sz = 6 from rfl, Nat.mul_one, Nat.add_zero] at hx12_2); have hf12_2 := hfr12 2; (try simp only [show (k73).sz = 6 from rfl, Nat.mul_one, Nat.add_zero] at hf12_2); have hx12_3 := hcc12 3 _ rfl; (try simp only [show (k73).sz = 6 from rfl, Nat.mul_one, Nat.add_zero] at hx12_3); have hf12_3 := hfr12 3; (try simp only [show (k73).sz = 6 from rfl, Nat.mul_one, Nat.add_zero] at hf12_3); have hx12_4 := hcc12 4 _ rfl; (try simp only [show (k73).sz = 6 from rfl, Nat.mul_one, Nat.add_zero] at hx12_4); have hf12_4 := hfr12 4; (try simp only [show (k73).sz = 6 from rfl, Nat.mul_one, Nat.add_zero] at hf12_4); have hx12_5 := hcc12 5 _ rfl; (try simp only [show (k73).sz = 6 from rfl, Nat.mul_one, Nat.add_zero] at hx12_5); have hf12_5 := hfr12 5; (try simp only [show (k73).sz = 6 from rfl, Nat.mul_one, Nat.add_zero] at hf12_5); clear hcl12 hcc12 hfr12 hM12) | ((with_reducible refine gate_store (t := 73) (p := 21) rfl ?_); refine store_event (t := 73) (p := 21) (v := ?vo_w13) (w1 := ((((((w11.setCell ⟨go10, (x4_1 : Int).toNat * 6, none⟩ (.int .i64 t211)).setCell ⟨go10, (x4_1 : Int).toNat * 6 + 1, none⟩ (.int .i64 t212)).setCell ⟨go10, (x4_1 : Int).toNat * 6 + 2, none⟩ (.int .i64 t213)).setCell ⟨go10, (x4_1 : Int).toNat * 6 + 3, none⟩ (.int .i64 t214)).setCell ⟨go10, (x4_1 : Int).toNat * 6 + 4, none⟩ (.int .i64 t215)).setCell ⟨go10, (x4_1 : Int).toNat * 6 + 5, none⟩ (.int .i64 t216))) ?hg ?ho ?hn ?hr ?_; (case ho => rfl); (case hg => rfl); (case hn => rfl); (case hr => exact mc142); intro w13 hw; have hg : w11.grownBy w13 (some go10) := (by rw [hw]; exact HP12.2); have hp_ : Kd.R k73 73 w13 w.heap.size (fun _ => True) (.slice (some ⟨go10, 0, none⟩) x3_1.length co10) y217 := (by rw [hw, Ny217.out]; exact HP12.1); clear HP12; replace HO_3 := A_ (hp_); replace HB := A_ ((by rw [hw]; exact below_set (below_set (below_set (below_set (below_set (below_set (HB.out) GB10.out) GB10.out) GB10.out) GB10.out) GB10.out) GB10.out : Below w.heap.size w w13)); clear hg hw hp_))
        go_roundg k1
        case measure => have := HK1.out; omega
        case rel => exact ⟨(y217), (wrap64 (x4_1 + 1)), mc141, H', ⟨mc144⟩, ⟨mc132⟩, ⟨mc89⟩⟩
       ·
        rw [if_neg c9] at H
        exact absurd H (by simp)
      ·
       rw [if_neg c7] at H
       exact absurd H (by simp)
     ·
      rw [if_neg c6] at H
      have c6b0 : decide (x4_1 < (l0.length : Int)) = false := decide_eq_false c6
      clear c6
      obtain rfl := Option.some.inj H
      go_wp2
      go_ret
      exact ⟨_, mc133, mc132, mc89⟩
  ·
   rw [if_neg c3] at H
   exact absurd H (by simp)
 ·
  rw [if_neg c2] at H
  exact absurd H (by simp)

/-! ### laws_toLog: function 19 -/
def laws_toLog.f (a0_0 : ByteArray) (a0_1 : ByteArray) (a0_2 : Int) : Option (ByteArray × ByteArray × Int) := some (a0_0, a0_1, a0_2)
set_option maxHeartbeats 8000000 in
set_option maxRecDepth 100000 in
theorem laws_toLog.calls (a0_0 : ByteArray) (a0_1 : ByteArray) (a0_2 : Int) (r1 : ByteArray) (r2 : ByteArray) (r3 : Int) (w : World) (h : laws_toLog.f a0_0 a0_1 a0_2 = some (r1, r2, r3)) :
  Calls Tryz.prog 19 #[.agg #[.string a0_0, .string a0_1, .int .i64 a0_2]] w fun e w' => e = .returned (.agg #[.string r1, .string r2, .int .i64 r3]) ∧ Below w.heap.size w w' := by
 have hu24 := Tryz.underlying24
 have hu31 := Tryz.underlying31
 have HB := A_ (Below.refl w.heap.size w)
 have H : (some (a0_0, a0_1, a0_2)) = some (r1, r2, r3) := h
 clear h
 simp only [Option.some.injEq, Prod.mk.injEq] at H
 obtain ⟨rfl, rfl, rfl⟩ := H
 go_enter Tryz.func19, Tryz.ntmps19
 go_wp2_with (first | ((with_reducible refine gd_ 1 rfl ?_); refine box_event rfl (N := 1) rfl (cs := #[.string a0_0, .string a0_1, .int .i64 a0_2]) (t := 24) mc142 ?_; intro gb218 hg w2 hbox hb; have BK218 := A_ (hbox); have GW218 := A_ ((mc45 : w.heap.size ≤ gb218)); have GE218 := A_ ((mc45 : w.heap.size ≤ gb218)); replace HB := A_ (below_step mc89 hb); clear hb hbox hg) | ((with_reducible refine gd_ 2 rfl ?_); refine box_event rfl (N := 2) rfl (cs := #[.string (⟨#[]⟩ : ByteArray), .string (⟨#[]⟩ : ByteArray), .int .i64 0]) (t := 31) mc142 ?_; intro gb219 hg w3 hbox hb; have BK219 := A_ (hbox); have GW219 := A_ ((mc22 : w.heap.size ≤ gb219)); have GE219 := A_ ((mc22 : w.heap.size ≤ gb219)); replace HB := A_ (below_step mc55 hb); have NB218_219 := A_ ((by rw [hg]; exact Nat.ne_of_lt (blk_lt mc101) : gb218 ≠ gb219)); have NB219_218 := A_ ((by rw [hg]; exact Nat.ne_of_gt (blk_lt mc101) : gb219 ≠ gb218)); replace BK218 := A_ (blk_below mc101 hb); clear hb hbox hg) | ((with_reducible refine gd_ 3 rfl ?_); refine box_event rfl (N := 3) rfl (cs := #[.string (⟨#[]⟩ : ByteArray), .string (⟨#[]⟩ : ByteArray), .int .i64 0]) (t := 31) mc142 ?_; intro gb220 hg w4 hbox hb; have BK220 := A_ (hbox); have GW220 := A_ ((mc16 : w.heap.size ≤ gb220)); have GE220 := A_ ((mc16 : w.heap.size ≤ gb220)); replace HB := A_ (below_step mc32 hb); have NB218_220 := A_ ((by rw [hg]; exact Nat.ne_of_lt (blk_lt mc101) : gb218 ≠ gb220)); have NB220_218 := A_ ((by rw [hg]; exact Nat.ne_of_gt (blk_lt mc101) : gb220 ≠ gb218)); replace BK218 := A_ (blk_below mc101 hb); have NB219_220 := A_ ((by rw [hg]; exact Nat.ne_of_lt (blk_lt mc102) : gb219 ≠ gb220)); have NB220_219 := A_ ((by rw [hg]; exact Nat.ne_of_gt (blk_lt mc102) : gb220 ≠ gb219)); replace BK219 := A_ (blk_below mc102 hb); clear hb hbox hg; have hnb5 := NB218_219.out; have hnc5 := NB219_218.out; have hnb6 := NB218_220.out; have hnc6 := NB220_218.out; have hcz7_0 : w4.cell? ⟨gb218, 0, none⟩ = some (.string a0_0) := bc_ BK218 0 rfl; have hcz7_1 : w4.cell? ⟨gb218, 1, none⟩ = some (.string a0_1) := bc_ BK218 1 rfl; have hcz7_2 : w4.cell? ⟨gb218, 2, none⟩ = some (.int .i64 a0_2) := bc_ BK218 2 rfl; have hfz7_0 := blk_frozen BK218.out 0; have hfz7_1 := blk_frozen BK218.out 1; have hfz7_2 := blk_frozen BK218.out 2; have hnb8 := NB220_219.out; have hnc8 := NB219_220.out; have hcz9_0 : w4.cell? ⟨gb220, 0, none⟩ = some (.string (⟨#[]⟩ : ByteArray)) := bc_ BK220 0 rfl; have hcz9_1 : w4.cell? ⟨gb220, 1, none⟩ = some (.string (⟨#[]⟩ : ByteArray)) := bc_ BK220 1 rfl; have hcz9_2 : w4.cell? ⟨gb220, 2, none⟩ = some (.int .i64 0) := bc_ BK220 2 rfl; have hfz9_0 := blk_frozen BK220.out 0; have hfz9_1 := blk_frozen BK220.out 1; have hfz9_2 := blk_frozen BK220.out 2; have hcz10_0 : w4.cell? ⟨gb219, 0, none⟩ = some (.string (⟨#[]⟩ : ByteArray)) := bc_ BK219 0 rfl; have hcz10_1 : w4.cell? ⟨gb219, 1, none⟩ = some (.string (⟨#[]⟩ : ByteArray)) := bc_ BK219 1 rfl; have hcz10_2 : w4.cell? ⟨gb219, 2, none⟩ = some (.int .i64 0) := bc_ BK219 2 rfl; have hfz10_0 := blk_frozen BK219.out 0; have hfz10_1 := blk_frozen BK219.out 1; have hfz10_2 := blk_frozen BK219.out 2))
 refine bodyPost_ret (results_cell_row rfl _ _ gb219 31 #[.string a0_0, .string a0_1, .int .i64 a0_2] (0, 0) _ rfl (by (with_reducible repeat (first | refine blk_drewN ?_ _ | refine blk_drew ?_ | refine blk_alloc ?_ _)); refine blk_put (cs := #[.string a0_0, .string a0_1, .int .i64 0]) ?_ 2 _ rfl; (with_reducible repeat (first | refine blk_drewN ?_ _ | refine blk_drew ?_ | refine blk_alloc ?_ _)); refine blk_put (cs := #[.string a0_0, .string (⟨#[]⟩ : ByteArray), .int .i64 0]) ?_ 1 _ rfl; (with_reducible repeat (first | refine blk_drewN ?_ _ | refine blk_drew ?_ | refine blk_alloc ?_ _)); refine blk_put (cs := #[.string (⟨#[]⟩ : ByteArray), .string (⟨#[]⟩ : ByteArray), .int .i64 0]) ?_ 0 _ rfl; (with_reducible repeat (first | refine blk_drewN ?_ _ | refine blk_drew ?_ | refine blk_alloc ?_ _)); refine blk_far ?_ NB219_220.out _; (with_reducible repeat (first | refine blk_drewN ?_ _ | refine blk_drew ?_ | refine blk_alloc ?_ _)); refine blk_far ?_ NB219_220.out _; (with_reducible repeat (first | refine blk_drewN ?_ _ | refine blk_drew ?_ | refine blk_alloc ?_ _)); refine blk_far ?_ NB219_220.out _; (with_reducible repeat (first | refine blk_drewN ?_ _ | refine blk_drew ?_ | refine blk_alloc ?_ _)); exact BK219.out) Tryz.underlying31 rfl kr_) rfl ?_
 exact ⟨mc133, by repeat (first | (with_reducible first | exact HB.out | apply below_alloc | apply pw_below_drewN | apply below_drew1 | refine below_set ?_ GE218.out | refine below_set ?_ GE219.out | refine below_set ?_ GE220.out) | exact HB.out)⟩

/-! ### laws_toConsole: function 12 -/
def laws_toConsole.f (k : Nat) (l0_0 : List (S78)) (a0_1 : ByteArray) (a0_2 : ByteArray) (a0_3 : Int) : Option ((List (S73)) × ByteArray × ByteArray × Int) := (laws_toWarningS.f k l0_0).bind fun t224 => ((laws_toLog.f a0_1 a0_2 a0_3).bind fun bt227 => (some (t224, bt227.1, bt227.2.1, bt227.2.2)))
set_option maxHeartbeats 8000000 in
set_option maxRecDepth 100000 in
theorem laws_toConsole.calls (k : Nat) (A0_0 : Option Addr) (c0_0 : Nat) (l0_0 : List (S78)) (a0_1 : ByteArray) (a0_2 : ByteArray) (a0_3 : Int) (r1 : List (S73)) (r2 : ByteArray) (r3 : ByteArray) (r4 : Int) (w : World) (hr0_0 : Kd.C k78 w A0_0 l0_0.length l0_0) (hc0_0 : l0_0.length ≤ c0_0) (h : laws_toConsole.f k l0_0 a0_1 a0_2 a0_3 = some (r1, r2, r3, r4)) :
  Calls Tryz.prog 12 #[.agg #[.slice A0_0 l0_0.length c0_0, .string a0_1, .string a0_2, .int .i64 a0_3]] w fun e w' => ∃ v0_ : Value, e = .returned (.agg #[v0_, .string r2, .string r3, .int .i64 r4]) ∧ Kd.R k73 73 w' w.heap.size (fun _ => True) v0_ r1 ∧ Below w.heap.size w w' := by
 have hu26 := Tryz.underlying26
 have hu33 := Tryz.underlying33
 have hu24 := Tryz.underlying24
 have hu31 := Tryz.underlying31
 have HR0_0 := A_ hr0_0
 have HC0_0 := A_ hc0_0
 clear hr0_0 hc0_0
 have HB := A_ (Below.refl w.heap.size w)
 have H : ((laws_toWarningS.f k l0_0).bind fun t224 => ((laws_toLog.f a0_1 a0_2 a0_3).bind fun bt227 => (some (t224, bt227.1, bt227.2.1, bt227.2.2)))) = some (r1, r2, r3, r4) := h
 clear h
 obtain ⟨t224, A20, H⟩ := oB_ H
 have A2 := A_ A20
 clear A20
 obtain ⟨⟨t227, t228, t229⟩, A30, H⟩ := oB_ H
 have A3 := A_ A30
 clear A30
 simp only [Option.some.injEq, Prod.mk.injEq] at H
 obtain ⟨rfl, rfl, rfl, rfl⟩ := H
 go_enter Tryz.func12, Tryz.ntmps12
 go_wp2_with (first | ((with_reducible refine gd_ 1 rfl ?_); refine box_event rfl (N := 1) rfl (cs := #[.slice A0_0 l0_0.length c0_0, .string a0_1, .string a0_2, .int .i64 a0_3]) (t := 26) mc142 ?_; intro gb221 hg w4 hbox hb; have BK221 := A_ (hbox); have GW221 := A_ ((mc45 : w.heap.size ≤ gb221)); have GE221 := A_ ((mc45 : w.heap.size ≤ gb221)); replace HB := A_ (below_step mc89 hb); clear hb hbox hg) | ((with_reducible refine gd_ 2 rfl ?_); refine box_event rfl (N := 2) rfl (cs := #[.slice none 0 0, .string (⟨#[]⟩ : ByteArray), .string (⟨#[]⟩ : ByteArray), .int .i64 0]) (t := 33) mc142 ?_; intro gb222 hg w5 hbox hb; have BK222 := A_ (hbox); have GW222 := A_ ((mc23 : w.heap.size ≤ gb222)); have GE222 := A_ ((mc23 : w.heap.size ≤ gb222)); replace HB := A_ (below_step mc56 hb); have NB221_222 := A_ ((by rw [hg]; exact Nat.ne_of_lt (blk_lt mc103) : gb221 ≠ gb222)); have NB222_221 := A_ ((by rw [hg]; exact Nat.ne_of_gt (blk_lt mc103) : gb222 ≠ gb221)); replace BK221 := A_ (blk_below mc103 hb); clear hb hbox hg) | ((with_reducible refine gd_ 3 rfl ?_); refine box_event rfl (N := 3) rfl (cs := #[.slice none 0 0, .string (⟨#[]⟩ : ByteArray), .string (⟨#[]⟩ : ByteArray), .int .i64 0]) (t := 33) mc142 ?_; intro gb223 hg w6 hbox hb; have BK223 := A_ (hbox); have GW223 := A_ ((mc17 : w.heap.size ≤ gb223)); have GE223 := A_ ((mc17 : w.heap.size ≤ gb223)); replace HB := A_ (below_step mc33 hb); have NB221_223 := A_ ((by rw [hg]; exact Nat.ne_of_lt (blk_lt mc103) : gb221 ≠ gb223)); have NB223_221 := A_ ((by rw [hg]; exact Nat.ne_of_gt (blk_lt mc103) : gb223 ≠ gb221)); replace BK221 := A_ (blk_below mc103 hb); have NB222_223 := A_ ((by rw [hg]; exact Nat.ne_of_lt (blk_lt mc104) : gb222 ≠ gb223)); have NB223_222 := A_ ((by rw [hg]; exact Nat.ne_of_gt (blk_lt mc104) : gb223 ≠ gb222)); replace BK222 := A_ (blk_below mc104 hb); clear hb hbox hg; have hnb7 := NB221_222.out; have hnc7 := NB222_221.out; have hnb8 := NB221_223.out; have hnc8 := NB223_221.out; have hcz9_0 : w6.cell? ⟨gb221, 0, none⟩ = some (.slice A0_0 l0_0.length c0_0) := bc_ BK221 0 rfl; have hcz9_1 : w6.cell? ⟨gb221, 1, none⟩ = some (.string a0_1) := bc_ BK221 1 rfl; have hcz9_2 : w6.cell? ⟨gb221, 2, none⟩ = some (.string a0_2) := bc_ BK221 2 rfl; have hcz9_3 : w6.cell? ⟨gb221, 3, none⟩ = some (.int .i64 a0_3) := bc_ BK221 3 rfl; have hfz9_0 := blk_frozen BK221.out 0; have hfz9_1 := blk_frozen BK221.out 1; have hfz9_2 := blk_frozen BK221.out 2; have hfz9_3 := blk_frozen BK221.out 3) | ((with_reducible refine gc_ 18 rfl ?_); refine goesL_ (some 6) rfl rfl Tryz.func18 kr_ rfl #[.slice A0_0 l0_0.length c0_0] rfl mc86 ?_; (with_reducible refine (laws_toWarningS.calls k _ _ l0_0 t224 _ ?side1 ?side2 A2.out).mono ?_); (case side1 => exact mc42); (case side2 => exact HC0_0.out); rintro e w10 ⟨v225, rfl, ho0, hb⟩; refine ⟨_, rfl, ?_⟩; have HO226 := A_ (Kd.R_lower ho0 (below_size mc18)); replace BK221 := A_ (blk_below mc103 hb); replace BK222 := A_ (blk_below mc104 hb); replace BK223 := A_ (blk_below (by (with_reducible repeat (first | refine blk_drewN ?_ _ | refine blk_drew ?_ | refine blk_alloc ?_ _)); exact BK223.out) hb); replace HB := A_ (below_step mc18 hb); (try clear hb); (try clear ho0); obtain ⟨Ao11, co11, eo11⟩ := Kd.R_slice HO226.out; subst eo11; have hnb12 := NB223_222.out; have hnc12 := NB222_223.out; have hcz13_0 : w10.cell? ⟨gb223, 0, none⟩ = some (.slice none 0 0) := bc_ BK223 0 rfl; have hcz13_1 : w10.cell? ⟨gb223, 1, none⟩ = some (.string (⟨#[]⟩ : ByteArray)) := bc_ BK223 1 rfl; have hcz13_2 : w10.cell? ⟨gb223, 2, none⟩ = some (.string (⟨#[]⟩ : ByteArray)) := bc_ BK223 2 rfl; have hcz13_3 : w10.cell? ⟨gb223, 3, none⟩ = some (.int .i64 0) := bc_ BK223 3 rfl; have hfz13_0 := blk_frozen BK223.out 0; have hfz13_1 := blk_frozen BK223.out 1; have hfz13_2 := blk_frozen BK223.out 2; have hfz13_3 := blk_frozen BK223.out 3; have hcz14_0 : w10.cell? ⟨gb221, 0, none⟩ = some (.slice A0_0 l0_0.length c0_0) := bc_ BK221 0 rfl; have hcz14_1 : w10.cell? ⟨gb221, 1, none⟩ = some (.string a0_1) := bc_ BK221 1 rfl; have hcz14_2 : w10.cell? ⟨gb221, 2, none⟩ = some (.string a0_2) := bc_ BK221 2 rfl; have hcz14_3 : w10.cell? ⟨gb221, 3, none⟩ = some (.int .i64 a0_3) := bc_ BK221 3 rfl; have hfz14_0 := blk_frozen BK221.out 0; have hfz14_1 := blk_frozen BK221.out 1; have hfz14_2 := blk_frozen BK221.out 2; have hfz14_3 := blk_frozen BK221.out 3) | ((with_reducible refine gc_ 19 rfl ?_); refine goesL_ (some 10) rfl rfl Tryz.func19 kr_ rfl #[.agg #[.string a0_1, .string a0_2, .int .i64 a0_3]] rfl mc86 ?_; (with_reducible refine (laws_toLog.calls a0_1 a0_2 a0_3 t227 t228 t229 _ A3.out).mono ?_); rintro e w15 ⟨rfl, hb⟩; refine ⟨_, rfl, ?_⟩; replace HO226 := A_ (Kd.R_below (by (with_reducible repeat (first | apply Kd.R_alloc | apply Kd.R_drewN | apply Kd.R_drew)); exact (Kd.R_mono (Kd.R_far (p := ⟨gb223, 0, none⟩) (Kd.R_types HO226.out BK223.out (by decide)) (fun _ hk => hk.2) (.slice Ao11 t224.length co11)) (fun _ h_ => h_.1))) hb); replace BK221 := A_ (blk_below (g := gb221) (o := .cells #[.slice A0_0 l0_0.length c0_0, .string a0_1, .string a0_2, .int .i64 a0_3] 26 (0, 0)) (by (with_reducible repeat (first | refine blk_drewN ?_ _ | refine blk_drew ?_ | refine blk_alloc ?_ _)); refine blk_far ?_ NB221_223.out _; (with_reducible repeat (first | refine blk_drewN ?_ _ | refine blk_drew ?_ | refine blk_alloc ?_ _)); exact BK221.out) hb); replace BK222 := A_ (blk_below (g := gb222) (o := .cells #[.slice none 0 0, .string (⟨#[]⟩ : ByteArray), .string (⟨#[]⟩ : ByteArray), .int .i64 0] 33 (0, 0)) (by (with_reducible repeat (first | refine blk_drewN ?_ _ | refine blk_drew ?_ | refine blk_alloc ?_ _)); refine blk_far ?_ NB222_223.out _; (with_reducible repeat (first | refine blk_drewN ?_ _ | refine blk_drew ?_ | refine blk_alloc ?_ _)); exact BK222.out) hb); replace BK223 := A_ (blk_below (g := gb223) (o := .cells #[.slice Ao11 t224.length co11, .string (⟨#[]⟩ : ByteArray), .string (⟨#[]⟩ : ByteArray), .int .i64 0] 33 (0, 0)) (by (with_reducible repeat (first | refine blk_drewN ?_ _ | refine blk_drew ?_ | refine blk_alloc ?_ _)); refine blk_put (cs := #[.slice none 0 0, .string (⟨#[]⟩ : ByteArray), .string (⟨#[]⟩ : ByteArray), .int .i64 0]) ?_ 0 _ rfl; (with_reducible repeat (first | refine blk_drewN ?_ _ | refine blk_drew ?_ | refine blk_alloc ?_ _)); exact BK223.out) hb); replace HB := A_ (below_step mc18 hb); (try clear hb); have hcz16_0 : w15.cell? ⟨gb223, 0, none⟩ = some (.slice Ao11 t224.length co11) := bc_ BK223 0 rfl; have hcz16_1 : w15.cell? ⟨gb223, 1, none⟩ = some (.string (⟨#[]⟩ : ByteArray)) := bc_ BK223 1 rfl; have hcz16_2 : w15.cell? ⟨gb223, 2, none⟩ = some (.string (⟨#[]⟩ : ByteArray)) := bc_ BK223 2 rfl; have hcz16_3 : w15.cell? ⟨gb223, 3, none⟩ = some (.int .i64 0) := bc_ BK223 3 rfl; have hfz16_0 := blk_frozen BK223.out 0; have hfz16_1 := blk_frozen BK223.out 1; have hfz16_2 := blk_frozen BK223.out 2; have hfz16_3 := blk_frozen BK223.out 3; have hcz17_0 : w15.cell? ⟨gb222, 0, none⟩ = some (.slice none 0 0) := bc_ BK222 0 rfl; have hcz17_1 : w15.cell? ⟨gb222, 1, none⟩ = some (.string (⟨#[]⟩ : ByteArray)) := bc_ BK222 1 rfl; have hcz17_2 : w15.cell? ⟨gb222, 2, none⟩ = some (.string (⟨#[]⟩ : ByteArray)) := bc_ BK222 2 rfl; have hcz17_3 : w15.cell? ⟨gb222, 3, none⟩ = some (.int .i64 0) := bc_ BK222 3 rfl; have hfz17_0 := blk_frozen BK222.out 0; have hfz17_1 := blk_frozen BK222.out 1; have hfz17_2 := blk_frozen BK222.out 2; have hfz17_3 := blk_frozen BK222.out 3))
 refine bodyPost_ret (results_cell_row rfl _ _ gb222 33 #[.slice Ao11 t224.length co11, .string t227, .string t228, .int .i64 t229] (0, 0) _ rfl (by (with_reducible repeat (first | refine blk_drewN ?_ _ | refine blk_drew ?_ | refine blk_alloc ?_ _)); refine blk_put (cs := #[.slice Ao11 t224.length co11, .string t227, .string t228, .int .i64 0]) ?_ 3 _ rfl; (with_reducible repeat (first | refine blk_drewN ?_ _ | refine blk_drew ?_ | refine blk_alloc ?_ _)); refine blk_put (cs := #[.slice Ao11 t224.length co11, .string t227, .string (⟨#[]⟩ : ByteArray), .int .i64 0]) ?_ 2 _ rfl; (with_reducible repeat (first | refine blk_drewN ?_ _ | refine blk_drew ?_ | refine blk_alloc ?_ _)); refine blk_put (cs := #[.slice Ao11 t224.length co11, .string (⟨#[]⟩ : ByteArray), .string (⟨#[]⟩ : ByteArray), .int .i64 0]) ?_ 1 _ rfl; (with_reducible repeat (first | refine blk_drewN ?_ _ | refine blk_drew ?_ | refine blk_alloc ?_ _)); refine blk_put (cs := #[.slice none 0 0, .string (⟨#[]⟩ : ByteArray), .string (⟨#[]⟩ : ByteArray), .int .i64 0]) ?_ 0 _ rfl; (with_reducible repeat (first | refine blk_drewN ?_ _ | refine blk_drew ?_ | refine blk_alloc ?_ _)); refine blk_far ?_ NB222_223.out _; (with_reducible repeat (first | refine blk_drewN ?_ _ | refine blk_drew ?_ | refine blk_alloc ?_ _)); refine blk_far ?_ NB222_223.out _; (with_reducible repeat (first | refine blk_drewN ?_ _ | refine blk_drew ?_ | refine blk_alloc ?_ _)); refine blk_far ?_ NB222_223.out _; (with_reducible repeat (first | refine blk_drewN ?_ _ | refine blk_drew ?_ | refine blk_alloc ?_ _)); exact BK222.out) Tryz.underlying33 rfl kr_) rfl ?_
 exact ⟨_, mc133, by (with_reducible repeat (first | apply Kd.R_alloc | apply Kd.R_drewN | apply Kd.R_drew)); exact Kd.R_mono (Kd.R_far (p := ⟨gb222, 3, none⟩) (Kd.R_far (p := ⟨gb222, 2, none⟩) (Kd.R_far (p := ⟨gb222, 1, none⟩) (Kd.R_far (p := ⟨gb222, 0, none⟩) (Kd.R_far (p := ⟨gb223, 3, none⟩) (Kd.R_far (p := ⟨gb223, 2, none⟩) (Kd.R_far (p := ⟨gb223, 1, none⟩) (Kd.R_types (Kd.R_types HO226.out BK223.out (by decide)) BK222.out (by decide)) (fun _ hk => hk.1.2) (.string t227)) (fun _ hk => hk.1.2) (.string t228)) (fun _ hk => hk.1.2) (.int .i64 t229)) (fun _ hk => hk.2) (.slice Ao11 t224.length co11)) (fun _ hk => hk.2) (.string t227)) (fun _ hk => hk.2) (.string t228)) (fun _ hk => hk.2) (.int .i64 t229)) (fun _ hk => trivial), by repeat (first | (with_reducible first | exact HB.out | apply below_alloc | apply pw_below_drewN | apply below_drew1 | refine below_set ?_ GE221.out | refine below_set ?_ GE222.out | refine below_set ?_ GE223.out) | exact HB.out)⟩

/-! ### impl_within: function 79 -/
def impl_within.f (a0 : Int) (a1 : Int) (a2 : Int) : Option (Bool) := if a0 ≥ a1 then (some (decide (a0 ≤ a2))) else (some false)
set_option maxHeartbeats 8000000 in
set_option maxRecDepth 100000 in
theorem impl_within.calls (a0 : Int) (a1 : Int) (a2 : Int) (r : Bool) (w : World) (h : impl_within.f a0 a1 a2 = some r) :
  Calls Tryz.prog 79 #[.int .i64 a0, .int .i64 a1, .int .i64 a2] w fun e w' => e = .returned (.bool r) ∧ Drawn0 w w' := by
 have H : (if a0 ≥ a1 then (some (decide (a0 ≤ a2))) else (some false)) = some r := h
 clear h
 by_cases c4 : a0 ≥ a1
 ·
  rw [if_pos c4] at H
  have c4b0 : decide (a1 ≤ a0) = true := decide_eq_true c4
  clear c4
  obtain rfl := Option.some.inj H
  go_enter Tryz.func79, Tryz.ntmps79
  go_wp2
  go_ret
  exact ⟨mc141, mc137⟩
 ·
  rw [if_neg c4] at H
  have c4b0 : decide (a1 ≤ a0) = false := decide_eq_false c4
  clear c4
  obtain rfl := Option.some.inj H
  go_enter Tryz.func79, Tryz.ntmps79
  go_wp2
  go_ret
  exact ⟨mc141, mc137⟩

/-! ### impl_IsValidWarning: function 168 -/
def impl_IsValidWarning.f (a0_0 : Int) (a0_1 : Int) (a0_2 : Int) (a0_3 : Int) (a0_4 : Int) (a0_5 : Int) : Option (Bool) := (impl_within.f a0_0 1 999).bind fun t231 => (if t231 = true then ((impl_within.f a0_1 1 5).bind fun t232 => (if t232 = true then ((impl_within.f a0_2 1 3).bind fun t233 => (if t233 = true then ((impl_within.f a0_3 1 9).bind fun t234 => (if t234 = true then (if a0_4 ≥ 0 then (if a0_4 < a0_5 then (some (decide (a0_5 ≤ 240))) else (some false)) else (some false)) else (some false))) else (some false))) else (some false))) else (some false))
set_option maxHeartbeats 8000000 in
set_option maxRecDepth 100000 in
theorem impl_IsValidWarning.calls (a0_0 : Int) (a0_1 : Int) (a0_2 : Int) (a0_3 : Int) (a0_4 : Int) (a0_5 : Int) (r : Bool) (w : World) (h : impl_IsValidWarning.f a0_0 a0_1 a0_2 a0_3 a0_4 a0_5 = some r) :
  Calls Tryz.prog 168 #[.agg #[.int .i64 a0_0, .int .i64 a0_1, .int .i64 a0_2, .int .i64 a0_3, .int .i64 a0_4, .int .i64 a0_5]] w fun e w' => e = .returned (.bool r) ∧ Below w.heap.size w w' := by
 have hu73 := Tryz.underlying73
 have HB := A_ (Below.refl w.heap.size w)
 have H : ((impl_within.f a0_0 1 999).bind fun t231 => (if t231 = true then ((impl_within.f a0_1 1 5).bind fun t232 => (if t232 = true then ((impl_within.f a0_2 1 3).bind fun t233 => (if t233 = true then ((impl_within.f a0_3 1 9).bind fun t234 => (if t234 = true then (if a0_4 ≥ 0 then (if a0_4 < a0_5 then (some (decide (a0_5 ≤ 240))) else (some false)) else (some false)) else (some false))) else (some false))) else (some false))) else (some false))) = some r := h
 clear h
 obtain ⟨t231, A20, H⟩ := oB_ H
 have A2 := A_ A20
 clear A20
 by_cases c3 : t231 = true
 ·
  subst c3
  rw [if_pos rfl] at H
  obtain ⟨t232, A40, H⟩ := oB_ H
  have A4 := A_ A40
  clear A40
  by_cases c5 : t232 = true
  ·
   subst c5
   rw [if_pos rfl] at H
   obtain ⟨t233, A60, H⟩ := oB_ H
   have A6 := A_ A60
   clear A60
   by_cases c7 : t233 = true
   ·
    subst c7
    rw [if_pos rfl] at H
    obtain ⟨t234, A80, H⟩ := oB_ H
    have A8 := A_ A80
    clear A80
    by_cases c9 : t234 = true
    ·
     subst c9
     rw [if_pos rfl] at H
     by_cases c10 : a0_4 ≥ 0
     ·
      rw [if_pos c10] at H
      have c10b0 : decide (0 ≤ a0_4) = true := decide_eq_true c10
      clear c10
      by_cases c11 : a0_4 < a0_5
      ·
       rw [if_pos c11] at H
       have c11b0 : decide (a0_4 < a0_5) = true := decide_eq_true c11
       clear c11
       obtain rfl := Option.some.inj H
       go_enter Tryz.func168, Tryz.ntmps168
       go_wp2_with (first | ((with_reducible refine gd_ 1 rfl ?_); refine box_event rfl (N := 1) rfl (cs := #[.int .i64 a0_0, .int .i64 a0_1, .int .i64 a0_2, .int .i64 a0_3, .int .i64 a0_4, .int .i64 a0_5]) (t := 73) mc142 ?_; intro gb230 hg w12 hbox hb; have BK230 := A_ (hbox); have GW230 := A_ ((mc45 : w.heap.size ≤ gb230)); have GE230 := A_ ((mc45 : w.heap.size ≤ gb230)); replace HB := A_ (below_step mc89 hb); clear hb hbox hg; have hcz13_0 : w12.cell? ⟨gb230, 0, none⟩ = some (.int .i64 a0_0) := bc_ BK230 0 rfl; have hcz13_1 : w12.cell? ⟨gb230, 1, none⟩ = some (.int .i64 a0_1) := bc_ BK230 1 rfl; have hcz13_2 : w12.cell? ⟨gb230, 2, none⟩ = some (.int .i64 a0_2) := bc_ BK230 2 rfl; have hcz13_3 : w12.cell? ⟨gb230, 3, none⟩ = some (.int .i64 a0_3) := bc_ BK230 3 rfl; have hcz13_4 : w12.cell? ⟨gb230, 4, none⟩ = some (.int .i64 a0_4) := bc_ BK230 4 rfl; have hcz13_5 : w12.cell? ⟨gb230, 5, none⟩ = some (.int .i64 a0_5) := bc_ BK230 5 rfl; have hfz13_0 := blk_frozen BK230.out 0; have hfz13_1 := blk_frozen BK230.out 1; have hfz13_2 := blk_frozen BK230.out 2; have hfz13_3 := blk_frozen BK230.out 3; have hfz13_4 := blk_frozen BK230.out 4; have hfz13_5 := blk_frozen BK230.out 5) | ((with_reducible refine gc_ 79 rfl ?_); refine goesL_ (some 5) rfl rfl Tryz.func79 kr_ rfl #[.int .i64 a0_0, .int .i64 1, .int .i64 999] rfl mc86 ?_; (with_reducible refine (impl_within.calls a0_0 1 999 true _ A2.out).mono ?_); rintro e w' ⟨rfl, ⟨nd, rfl⟩⟩; refine ⟨_, rfl, ?_⟩) | (go_at_call 79; (with_reducible refine (impl_within.calls a0_1 1 5 true _ A4.out).mono ?_); rintro e w' ⟨rfl, ⟨nd, rfl⟩⟩) | (go_at_call 79; (with_reducible refine (impl_within.calls a0_2 1 3 true _ A6.out).mono ?_); rintro e w' ⟨rfl, ⟨nd, rfl⟩⟩) | (go_at_call 79; (with_reducible refine (impl_within.calls a0_3 1 9 true _ A8.out).mono ?_); rintro e w' ⟨rfl, ⟨nd, rfl⟩⟩))
       go_ret
       exact ⟨mc133, mc74⟩
      ·
       rw [if_neg c11] at H
       have c11b0 : decide (a0_4 < a0_5) = false := decide_eq_false c11
       clear c11
       obtain rfl := Option.some.inj H
       go_enter Tryz.func168, Tryz.ntmps168
       go_wp2_with (first | ((with_reducible refine gd_ 1 rfl ?_); refine box_event rfl (N := 1) rfl (cs := #[.int .i64 a0_0, .int .i64 a0_1, .int .i64 a0_2, .int .i64 a0_3, .int .i64 a0_4, .int .i64 a0_5]) (t := 73) mc142 ?_; intro gb230 hg w14 hbox hb; have BK230 := A_ (hbox); have GW230 := A_ ((mc45 : w.heap.size ≤ gb230)); have GE230 := A_ ((mc45 : w.heap.size ≤ gb230)); replace HB := A_ (below_step mc89 hb); clear hb hbox hg; have hcz15_0 : w14.cell? ⟨gb230, 0, none⟩ = some (.int .i64 a0_0) := bc_ BK230 0 rfl; have hcz15_1 : w14.cell? ⟨gb230, 1, none⟩ = some (.int .i64 a0_1) := bc_ BK230 1 rfl; have hcz15_2 : w14.cell? ⟨gb230, 2, none⟩ = some (.int .i64 a0_2) := bc_ BK230 2 rfl; have hcz15_3 : w14.cell? ⟨gb230, 3, none⟩ = some (.int .i64 a0_3) := bc_ BK230 3 rfl; have hcz15_4 : w14.cell? ⟨gb230, 4, none⟩ = some (.int .i64 a0_4) := bc_ BK230 4 rfl; have hcz15_5 : w14.cell? ⟨gb230, 5, none⟩ = some (.int .i64 a0_5) := bc_ BK230 5 rfl; have hfz15_0 := blk_frozen BK230.out 0; have hfz15_1 := blk_frozen BK230.out 1; have hfz15_2 := blk_frozen BK230.out 2; have hfz15_3 := blk_frozen BK230.out 3; have hfz15_4 := blk_frozen BK230.out 4; have hfz15_5 := blk_frozen BK230.out 5) | ((with_reducible refine gc_ 79 rfl ?_); refine goesL_ (some 5) rfl rfl Tryz.func79 kr_ rfl #[.int .i64 a0_0, .int .i64 1, .int .i64 999] rfl mc86 ?_; (with_reducible refine (impl_within.calls a0_0 1 999 true _ A2.out).mono ?_); rintro e w' ⟨rfl, ⟨nd, rfl⟩⟩; refine ⟨_, rfl, ?_⟩) | (go_at_call 79; (with_reducible refine (impl_within.calls a0_1 1 5 true _ A4.out).mono ?_); rintro e w' ⟨rfl, ⟨nd, rfl⟩⟩) | (go_at_call 79; (with_reducible refine (impl_within.calls a0_2 1 3 true _ A6.out).mono ?_); rintro e w' ⟨rfl, ⟨nd, rfl⟩⟩) | (go_at_call 79; (with_reducible refine (impl_within.calls a0_3 1 9 true _ A8.out).mono ?_); rintro e w' ⟨rfl, ⟨nd, rfl⟩⟩))
       go_ret
       exact ⟨mc133, mc74⟩
     ·
      rw [if_neg c10] at H
      have c10b0 : decide (0 ≤ a0_4) = false := decide_eq_false c10
      clear c10
      obtain rfl := Option.some.inj H
      go_enter Tryz.func168, Tryz.ntmps168
      go_wp2_with (first | ((with_reducible refine gd_ 1 rfl ?_); refine box_event rfl (N := 1) rfl (cs := #[.int .i64 a0_0, .int .i64 a0_1, .int .i64 a0_2, .int .i64 a0_3, .int .i64 a0_4, .int .i64 a0_5]) (t := 73) mc142 ?_; intro gb230 hg w16 hbox hb; have BK230 := A_ (hbox); have GW230 := A_ ((mc45 : w.heap.size ≤ gb230)); have GE230 := A_ ((mc45 : w.heap.size ≤ gb230)); replace HB := A_ (below_step mc89 hb); clear hb hbox hg; have hcz17_0 : w16.cell? ⟨gb230, 0, none⟩ = some (.int .i64 a0_0) := bc_ BK230 0 rfl; have hcz17_1 : w16.cell? ⟨gb230, 1, none⟩ = some (.int .i64 a0_1) := bc_ BK230 1 rfl; have hcz17_2 : w16.cell? ⟨gb230, 2, none⟩ = some (.int .i64 a0_2) := bc_ BK230 2 rfl; have hcz17_3 : w16.cell? ⟨gb230, 3, none⟩ = some (.int .i64 a0_3) := bc_ BK230 3 rfl; have hcz17_4 : w16.cell? ⟨gb230, 4, none⟩ = some (.int .i64 a0_4) := bc_ BK230 4 rfl; have hcz17_5 : w16.cell? ⟨gb230, 5, none⟩ = some (.int .i64 a0_5) := bc_ BK230 5 rfl; have hfz17_0 := blk_frozen BK230.out 0; have hfz17_1 := blk_frozen BK230.out 1; have hfz17_2 := blk_frozen BK230.out 2; have hfz17_3 := blk_frozen BK230.out 3; have hfz17_4 := blk_frozen BK230.out 4; have hfz17_5 := blk_frozen BK230.out 5) | ((with_reducible refine gc_ 79 rfl ?_); refine goesL_ (some 5) rfl rfl Tryz.func79 kr_ rfl #[.int .i64 a0_0, .int .i64 1, .int .i64 999] rfl mc86 ?_; (with_reducible refine (impl_within.calls a0_0 1 999 true _ A2.out).mono ?_); rintro e w' ⟨rfl, ⟨nd, rfl⟩⟩; refine ⟨_, rfl, ?_⟩) | (go_at_call 79; (with_reducible refine (impl_within.calls a0_1 1 5 true _ A4.out).mono ?_); rintro e w' ⟨rfl, ⟨nd, rfl⟩⟩) | (go_at_call 79; (with_reducible refine (impl_within.calls a0_2 1 3 true _ A6.out).mono ?_); rintro e w' ⟨rfl, ⟨nd, rfl⟩⟩) | (go_at_call 79; (with_reducible refine (impl_within.calls a0_3 1 9 true _ A8.out).mono ?_); rintro e w' ⟨rfl, ⟨nd, rfl⟩⟩))
      go_ret
      exact ⟨mc133, mc74⟩
    ·
     replace c9 := Bool.eq_false_iff.mpr c9
     subst c9
     rw [if_neg (show ¬ (false = true) by decide)] at H
     obtain rfl := Option.some.inj H
     go_enter Tryz.func168, Tryz.ntmps168
     go_wp2_with (first | ((with_reducible refine gd_ 1 rfl ?_); refine box_event rfl (N := 1) rfl (cs := #[.int .i64 a0_0, .int .i64 a0_1, .int .i64 a0_2, .int .i64 a0_3, .int .i64 a0_4, .int .i64 a0_5]) (t := 73) mc142 ?_; intro gb230 hg w18 hbox hb; have BK230 := A_ (hbox); have GW230 := A_ ((mc45 : w.heap.size ≤ gb230)); have GE230 := A_ ((mc45 : w.heap.size ≤ gb230)); replace HB := A_ (below_step mc89 hb); clear hb hbox hg; have hcz19_0 : w18.cell? ⟨gb230, 0, none⟩ = some (.int .i64 a0_0) := bc_ BK230 0 rfl; have hcz19_1 : w18.cell? ⟨gb230, 1, none⟩ = some (.int .i64 a0_1) := bc_ BK230 1 rfl; have hcz19_2 : w18.cell? ⟨gb230, 2, none⟩ = some (.int .i64 a0_2) := bc_ BK230 2 rfl; have hcz19_3 : w18.cell? ⟨gb230, 3, none⟩ = some (.int .i64 a0_3) := bc_ BK230 3 rfl; have hcz19_4 : w18.cell? ⟨gb230, 4, none⟩ = some (.int .i64 a0_4) := bc_ BK230 4 rfl; have hcz19_5 : w18.cell? ⟨gb230, 5, none⟩ = some (.int .i64 a0_5) := bc_ BK230 5 rfl; have hfz19_0 := blk_frozen BK230.out 0; have hfz19_1 := blk_frozen BK230.out 1; have hfz19_2 := blk_frozen BK230.out 2; have hfz19_3 := blk_frozen BK230.out 3; have hfz19_4 := blk_frozen BK230.out 4; have hfz19_5 := blk_frozen BK230.out 5) | ((with_reducible refine gc_ 79 rfl ?_); refine goesL_ (some 5) rfl rfl Tryz.func79 kr_ rfl #[.int .i64 a0_0, .int .i64 1, .int .i64 999] rfl mc86 ?_; (with_reducible refine (impl_within.calls a0_0 1 999 true _ A2.out).mono ?_); rintro e w' ⟨rfl, ⟨nd, rfl⟩⟩; refine ⟨_, rfl, ?_⟩) | (go_at_call 79; (with_reducible refine (impl_within.calls a0_1 1 5 true _ A4.out).mono ?_); rintro e w' ⟨rfl, ⟨nd, rfl⟩⟩) | (go_at_call 79; (with_reducible refine (impl_within.calls a0_2 1 3 true _ A6.out).mono ?_); rintro e w' ⟨rfl, ⟨nd, rfl⟩⟩) | (go_at_call 79; (with_reducible refine (impl_within.calls a0_3 1 9 false _ A8.out).mono ?_); rintro e w' ⟨rfl, ⟨nd, rfl⟩⟩))
     go_ret
     exact ⟨mc133, mc74⟩
   ·
    replace c7 := Bool.eq_false_iff.mpr c7
    subst c7
    rw [if_neg (show ¬ (false = true) by decide)] at H
    obtain rfl := Option.some.inj H
    go_enter Tryz.func168, Tryz.ntmps168
    go_wp2_with (first | ((with_reducible refine gd_ 1 rfl ?_); refine box_event rfl (N := 1) rfl (cs := #[.int .i64 a0_0, .int .i64 a0_1, .int .i64 a0_2, .int .i64 a0_3, .int .i64 a0_4, .int .i64 a0_5]) (t := 73) mc142 ?_; intro gb230 hg w20 hbox hb; have BK230 := A_ (hbox); have GW230 := A_ ((mc45 : w.heap.size ≤ gb230)); have GE230 := A_ ((mc45 : w.heap.size ≤ gb230)); replace HB := A_ (below_step mc89 hb); clear hb hbox hg; have hcz21_0 : w20.cell? ⟨gb230, 0, none⟩ = some (.int .i64 a0_0) := bc_ BK230 0 rfl; have hcz21_1 : w20.cell? ⟨gb230, 1, none⟩ = some (.int .i64 a0_1) := bc_ BK230 1 rfl; have hcz21_2 : w20.cell? ⟨gb230, 2, none⟩ = some (.int .i64 a0_2) := bc_ BK230 2 rfl; have hcz21_3 : w20.cell? ⟨gb230, 3, none⟩ = some (.int .i64 a0_3) := bc_ BK230 3 rfl; have hcz21_4 : w20.cell? ⟨gb230, 4, none⟩ = some (.int .i64 a0_4) := bc_ BK230 4 rfl; have hcz21_5 : w20.cell? ⟨gb230, 5, none⟩ = some (.int .i64 a0_5) := bc_ BK230 5 rfl; have hfz21_0 := blk_frozen BK230.out 0; have hfz21_1 := blk_frozen BK230.out 1; have hfz21_2 := blk_frozen BK230.out 2; have hfz21_3 := blk_frozen BK230.out 3; have hfz21_4 := blk_frozen BK230.out 4; have hfz21_5 := blk_frozen BK230.out 5) | ((with_reducible refine gc_ 79 rfl ?_); refine goesL_ (some 5) rfl rfl Tryz.func79 kr_ rfl #[.int .i64 a0_0, .int .i64 1, .int .i64 999] rfl mc86 ?_; (with_reducible refine (impl_within.calls a0_0 1 999 true _ A2.out).mono ?_); rintro e w' ⟨rfl, ⟨nd, rfl⟩⟩; refine ⟨_, rfl, ?_⟩) | (go_at_call 79; (with_reducible refine (impl_within.calls a0_1 1 5 true _ A4.out).mono ?_); rintro e w' ⟨rfl, ⟨nd, rfl⟩⟩) | (go_at_call 79; (with_reducible refine (impl_within.calls a0_2 1 3 false _ A6.out).mono ?_); rintro e w' ⟨rfl, ⟨nd, rfl⟩⟩))
    go_ret
    exact ⟨mc133, mc74⟩
  ·
   replace c5 := Bool.eq_false_iff.mpr c5
   subst c5
   rw [if_neg (show ¬ (false = true) by decide)] at H
   obtain rfl := Option.some.inj H
   go_enter Tryz.func168, Tryz.ntmps168
   go_wp2_with (first | ((with_reducible refine gd_ 1 rfl ?_); refine box_event rfl (N := 1) rfl (cs := #[.int .i64 a0_0, .int .i64 a0_1, .int .i64 a0_2, .int .i64 a0_3, .int .i64 a0_4, .int .i64 a0_5]) (t := 73) mc142 ?_; intro gb230 hg w22 hbox hb; have BK230 := A_ (hbox); have GW230 := A_ ((mc45 : w.heap.size ≤ gb230)); have GE230 := A_ ((mc45 : w.heap.size ≤ gb230)); replace HB := A_ (below_step mc89 hb); clear hb hbox hg; have hcz23_0 : w22.cell? ⟨gb230, 0, none⟩ = some (.int .i64 a0_0) := bc_ BK230 0 rfl; have hcz23_1 : w22.cell? ⟨gb230, 1, none⟩ = some (.int .i64 a0_1) := bc_ BK230 1 rfl; have hcz23_2 : w22.cell? ⟨gb230, 2, none⟩ = some (.int .i64 a0_2) := bc_ BK230 2 rfl; have hcz23_3 : w22.cell? ⟨gb230, 3, none⟩ = some (.int .i64 a0_3) := bc_ BK230 3 rfl; have hcz23_4 : w22.cell? ⟨gb230, 4, none⟩ = some (.int .i64 a0_4) := bc_ BK230 4 rfl; have hcz23_5 : w22.cell? ⟨gb230, 5, none⟩ = some (.int .i64 a0_5) := bc_ BK230 5 rfl; have hfz23_0 := blk_frozen BK230.out 0; have hfz23_1 := blk_frozen BK230.out 1; have hfz23_2 := blk_frozen BK230.out 2; have hfz23_3 := blk_frozen BK230.out 3; have hfz23_4 := blk_frozen BK230.out 4; have hfz23_5 := blk_frozen BK230.out 5) | ((with_reducible refine gc_ 79 rfl ?_); refine goesL_ (some 5) rfl rfl Tryz.func79 kr_ rfl #[.int .i64 a0_0, .int .i64 1, .int .i64 999] rfl mc86 ?_; (with_reducible refine (impl_within.calls a0_0 1 999 true _ A2.out).mono ?_); rintro e w' ⟨rfl, ⟨nd, rfl⟩⟩; refine ⟨_, rfl, ?_⟩) | (go_at_call 79; (with_reducible refine (impl_within.calls a0_1 1 5 false _ A4.out).mono ?_); rintro e w' ⟨rfl, ⟨nd, rfl⟩⟩))
   go_ret
   exact ⟨mc133, mc74⟩
 ·
  replace c3 := Bool.eq_false_iff.mpr c3
  subst c3
  rw [if_neg (show ¬ (false = true) by decide)] at H
  obtain rfl := Option.some.inj H
  go_enter Tryz.func168, Tryz.ntmps168
  go_wp2_with (first | ((with_reducible refine gd_ 1 rfl ?_); refine box_event rfl (N := 1) rfl (cs := #[.int .i64 a0_0, .int .i64 a0_1, .int .i64 a0_2, .int .i64 a0_3, .int .i64 a0_4, .int .i64 a0_5]) (t := 73) mc142 ?_; intro gb230 hg w24 hbox hb; have BK230 := A_ (hbox); have GW230 := A_ ((mc45 : w.heap.size ≤ gb230)); have GE230 := A_ ((mc45 : w.heap.size ≤ gb230)); replace HB := A_ (below_step mc89 hb); clear hb hbox hg; have hcz25_0 : w24.cell? ⟨gb230, 0, none⟩ = some (.int .i64 a0_0) := bc_ BK230 0 rfl; have hcz25_1 : w24.cell? ⟨gb230, 1, none⟩ = some (.int .i64 a0_1) := bc_ BK230 1 rfl; have hcz25_2 : w24.cell? ⟨gb230, 2, none⟩ = some (.int .i64 a0_2) := bc_ BK230 2 rfl; have hcz25_3 : w24.cell? ⟨gb230, 3, none⟩ = some (.int .i64 a0_3) := bc_ BK230 3 rfl; have hcz25_4 : w24.cell? ⟨gb230, 4, none⟩ = some (.int .i64 a0_4) := bc_ BK230 4 rfl; have hcz25_5 : w24.cell? ⟨gb230, 5, none⟩ = some (.int .i64 a0_5) := bc_ BK230 5 rfl; have hfz25_0 := blk_frozen BK230.out 0; have hfz25_1 := blk_frozen BK230.out 1; have hfz25_2 := blk_frozen BK230.out 2; have hfz25_3 := blk_frozen BK230.out 3; have hfz25_4 := blk_frozen BK230.out 4; have hfz25_5 := blk_frozen BK230.out 5) | ((with_reducible refine gc_ 79 rfl ?_); refine goesL_ (some 5) rfl rfl Tryz.func79 kr_ rfl #[.int .i64 a0_0, .int .i64 1, .int .i64 999] rfl mc86 ?_; (with_reducible refine (impl_within.calls a0_0 1 999 false _ A2.out).mono ?_); rintro e w' ⟨rfl, ⟨nd, rfl⟩⟩; refine ⟨_, rfl, ?_⟩))
  go_ret
  exact ⟨mc133, mc74⟩

end Go.Proofs.YtlnlabndaikbnaaGreatDoor.P
