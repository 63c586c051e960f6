-- Made by pp.py of this session out of the kit's print and of contracts proved by hand; Lean checks it.
import Derived.Test.YtlnlabndaikbnaaGreatDoorMc
import Derived.Test.YtlnlabndaikbnaaGreatDoorPx0
import Derived.Test.YtlnlabndaikbnaaGreatDoorPx17
import Derived.Test.YtlnlabndaikbnaaGreatDoorPx20
import Derived.Test.YtlnlabndaikbnaaGreatDoorPx23
namespace Go.Proofs.YtlnlabndaikbnaaGreatDoor.P
open Go.RowKit Go.Proofs.YtlnlabndaikbnaaGreatDoorW.PrintWords Go.Proofs.YtlnlabndaikbnaaGreatDoorW.PrintLast Go.Proofs.YtlnlabndaikbnaaGreatDoorW.PrintMore
attribute [local go_sem] max2_int min2_int max_two min_two max_three min_three max_four min_four   -- for this text's walks alone
set_option linter.unusedVariables false
set_option linter.unusedSimpArgs false

/-! ### impl_FormatConsole: function 13 -/
def impl_FormatConsole.l0 : Nat → ByteArray → List (S73) → Int → Int → List (S73) → ByteArray → ByteArray → Int → Option (ByteArray × Bool)
 | 0, _, _, _, _, _, _, _, _ => none
 | k + 1, x4, x11, x12, x13, x321000, x321001, x321002, x321003 => if x13 < x12 then (if 0 ≤ x13 then (if x13 < (x11.length : Int) then ((impl_warningLine.f k ((rd_T73 x11 x13).f0) ((rd_T73 x11 x13).f1) ((rd_T73 x11 x13).f2) ((rd_T73 x11 x13).f3) ((rd_T73 x11 x13).f4) ((rd_T73 x11 x13).f5)).bind fun t324 => (if t324.size + 1 ≤ 9223372036854775807 then (if x4.size + (t324 ++ (⟨#[10]⟩ : ByteArray)).size ≤ 9223372036854775807 then (impl_FormatConsole.l0 k (x4 ++ (t324 ++ (⟨#[10]⟩ : ByteArray))) x11 x12 (wrap64 (x13 + 1)) x321000 x321001 x321002 x321003) else (none)) else (none))) else (none)) else (none)) else ((strconv_Itoa.f x321003).bind fun t325 => (if x4.size + t325.size ≤ 9223372036854775807 then (if (x4 ++ t325).size + 1 ≤ 9223372036854775807 then (some ((x4 ++ t325) ++ (⟨#[10]⟩ : ByteArray), true)) else (none)) else (none)))
def impl_FormatConsole.f (k : Nat) (l0_0 : List (S73)) (a0_1 : ByteArray) (a0_2 : ByteArray) (a0_3 : Int) : Option (ByteArray × Bool) := (impl_IsValidConsole.f k l0_0 a0_1 a0_2 a0_3).bind fun t321 => (if t321 = true then (impl_FormatConsole.l0 k (⟨#[]⟩ : ByteArray) l0_0 (l0_0.length : Int) 0 l0_0 a0_1 a0_2 a0_3) else (some ((⟨#[]⟩ : ByteArray), false)))
set_option maxHeartbeats 8000000 in
set_option maxRecDepth 100000 in
theorem impl_FormatConsole.calls (k : Nat) (A0_0 : Option Addr) (c0_0 : Nat) (l0_0 : List (S73)) (a0_1 : ByteArray) (a0_2 : ByteArray) (a0_3 : Int) (r1 : ByteArray) (r2 : Bool) (w : World) (hr0_0 : Kd.C k73 w A0_0 l0_0.length l0_0) (hc0_0 : l0_0.length ≤ c0_0) (h : impl_FormatConsole.f k l0_0 a0_1 a0_2 a0_3 = some (r1, r2)) (hG_ : GW w) :
  Calls Tryz.prog 13 #[.agg #[.slice A0_0 l0_0.length c0_0, .string a0_1, .string a0_2, .int .i64 a0_3]] w fun e w' => e = .returned (.tuple #[.string r1, .bool r2]) ∧ Below w.heap.size w w' := by
 have HG := A_ hG_
 clear hG_
 have hu33 := Tryz.underlying33
 have hu73 := Tryz.underlying73
 have HR0_0 := A_ hr0_0
 have HC0_0 := A_ hc0_0
 clear hr0_0 hc0_0
 have HB := A_ (Below.refl w.heap.size w)
 have H : ((impl_IsValidConsole.f k l0_0 a0_1 a0_2 a0_3).bind fun t321 => (if t321 = true then (impl_FormatConsole.l0 k (⟨#[]⟩ : ByteArray) l0_0 (l0_0.length : Int) 0 l0_0 a0_1 a0_2 a0_3) else (some ((⟨#[]⟩ : ByteArray), false)))) = some (r1, r2) := h
 clear h
 obtain ⟨t321, A20, H⟩ := oB_ H
 have A2 := A_ A20
 clear A20
 by_cases c3 : t321 = true
 ·
  subst c3
  rw [if_pos rfl] at H
  have H' := A_ H
  clear H
  go_enter Tryz.func13, Tryz.ntmps13
  go_wp2_with (first | ((with_reducible refine gd_ 1 rfl ?_); refine box_event rfl (N := 1) rfl (cs := #[.slice A0_0 l0_0.length c0_0, .string a0_1, .string a0_2, .int .i64 a0_3]) (t := 33) mc142 ?_; intro gb320 hg w4 hbox hb; have BK320 := A_ (hbox); have GW320 := A_ ((mc45 : w.heap.size ≤ gb320)); have GE320 := A_ ((mc45 : w.heap.size ≤ gb320)); replace HB := A_ (below_step mc89 hb); clear hb hbox hg; have hcz5_0 : w4.cell? ⟨gb320, 0, none⟩ = some (.slice A0_0 l0_0.length c0_0) := bc_ BK320 0 rfl; have hcz5_1 : w4.cell? ⟨gb320, 1, none⟩ = some (.string a0_1) := bc_ BK320 1 rfl; have hcz5_2 : w4.cell? ⟨gb320, 2, none⟩ = some (.string a0_2) := bc_ BK320 2 rfl; have hcz5_3 : w4.cell? ⟨gb320, 3, none⟩ = some (.int .i64 a0_3) := bc_ BK320 3 rfl; have hfz5_0 := blk_frozen BK320.out 0; have hfz5_1 := blk_frozen BK320.out 1; have hfz5_2 := blk_frozen BK320.out 2; have hfz5_3 := blk_frozen BK320.out 3) | ((with_reducible refine gc_ 34 rfl ?_); refine goesL_ (some 8) rfl rfl Tryz.func34 kr_ rfl #[.agg #[.slice A0_0 l0_0.length c0_0, .string a0_1, .string a0_2, .int .i64 a0_3]] rfl mc86 ?_; (with_reducible refine (impl_IsValidConsole.calls k _ _ l0_0 a0_1 a0_2 a0_3 true _ ?side1 ?side2 A2.out ?sideG).mono ?_); (case sideG => exact (gw_below HG.out mc66)); (case side1 => exact mc42); (case side2 => exact HC0_0.out); rintro e w6 ⟨rfl, hb⟩; refine ⟨_, rfl, ?_⟩; replace BK320 := A_ (blk_below mc113 hb); replace HB := A_ (below_step mc66 hb); (try clear hb); have hcz7_0 : w6.cell? ⟨gb320, 0, none⟩ = some (.slice A0_0 l0_0.length c0_0) := bc_ BK320 0 rfl; have hcz7_1 : w6.cell? ⟨gb320, 1, none⟩ = some (.string a0_1) := bc_ BK320 1 rfl; have hcz7_2 : w6.cell? ⟨gb320, 2, none⟩ = some (.string a0_2) := bc_ BK320 2 rfl; have hcz7_3 : w6.cell? ⟨gb320, 3, none⟩ = some (.int .i64 a0_3) := bc_ BK320 3 rfl; have hfz7_0 := blk_frozen BK320.out 0; have hfz7_1 := blk_frozen BK320.out 1; have hfz7_2 := blk_frozen BK320.out 2; have hfz7_3 := blk_frozen BK320.out 3))
  go_loopg [4, 13] k (fun kq v4 v13 w' => ∃ (x4_1 : ByteArray) (x13_1 : Int), v4 = .string x4_1 ∧ v13 = .int .i64 x13_1 ∧ Aside0 (impl_FormatConsole.l0 kq x4_1 l0_0 (l0_0.length : Int) x13_1 l0_0 a0_1 a0_2 a0_3 = some (r1, r2)) ∧ Aside0 (kq ≤ k) ∧ Aside0 (w'.heap[gb320]? = some (.cells #[(.slice A0_0 l0_0.length c0_0), .string a0_1, .string a0_2, .int .i64 a0_3] 33 (0, 0))) ∧ Aside0 (Below w.heap.size w w'))
  case atStart => exact ⟨((⟨#[]⟩ : ByteArray)), (0), mc141, mc141, H', ⟨Nat.le_refl _⟩, ⟨mc113⟩, ⟨mc66⟩⟩
  case round =>
   clear H'
   try clear p2
   obtain ⟨x4_1, x13_1, rfl, rfl, HA, HK1, BK320, HB⟩ := hrel
   cases gk with
   | zero => exact absurd HA.out (by simp [impl_FormatConsole.l0])
   | succ k1 =>
    have H := HA.out
    clear HA
    simp only [impl_FormatConsole.l0] at H
    by_cases c8 : x13_1 < (l0_0.length : Int)
    ·
     rw [if_pos c8] at H
     have c8b0 : decide (x13_1 < (l0_0.length : Int)) = true := decide_eq_true c8
     clear c8
     by_cases c9 : 0 ≤ x13_1
     ·
      rw [if_pos c9] at H
      have c9b0 : decide (0 ≤ x13_1) = true := decide_eq_true c9
      clear c9
      by_cases c10 : x13_1 < (l0_0.length : Int)
      ·
       rw [if_pos c10] at H
       have c10b0 : decide (x13_1 < (l0_0.length : Int)) = true := decide_eq_true c10
       clear c10
       obtain ⟨t324, A110, H⟩ := oB_ H
       have A11 := A_ A110
       clear A110
       by_cases c12 : t324.size + 1 ≤ 9223372036854775807
       ·
        rw [if_pos c12] at H
        have c12b0 := eq_true c12
        have c12b1 : decide (t324.size + 1 ≤ 9223372036854775807) = true := decide_eq_true c12
        try have c12b2 : (9223372036854775807 < t324.size + 1) = False := eq_false (Nat.not_lt.2 c12)
        by_cases c13 : x4_1.size + (t324 ++ (⟨#[10]⟩ : ByteArray)).size ≤ 9223372036854775807
        ·
         rw [if_pos c13] at H
         have c13b0 := eq_true c13
         have c13b1 : decide (x4_1.size + (t324 ++ (⟨#[10]⟩ : ByteArray)).size ≤ 9223372036854775807) = true := decide_eq_true c13
         try have c13b1z : decide (x4_1.size + (t324.size + 1) ≤ 9223372036854775807) = true := by have h_ := c13b1; (try simp only [ByteArray.size_append] at h_); exact h_
         try have c13b2 : (9223372036854775807 < x4_1.size + (t324 ++ (⟨#[10]⟩ : ByteArray)).size) = False := eq_false (Nat.not_lt.2 c13)
         try have c13b2z : (9223372036854775807 < x4_1.size + (t324.size + 1)) = False := by have h_ := c13b2; (try simp only [ByteArray.size_append] at h_); exact h_
         have H' := A_ H
         clear H
         have p322 : 0 ≤ (x13_1 : Int) := of_decide_eq_true mc139
         have q322 : x13_1 < (l0_0.length : Int) := of_decide_eq_true mc139
         obtain ⟨ad322, e322, hx322_0, hx322_1, hx322_2, hx322_3, hx322_4, hx322_5⟩ := at_T73 HR0_0.out x13_1 p322 q322
         cases e322
         replace hx322_0 := (HB.out.cell (World.block_lt_of_cell? w _ hx322_0)).trans hx322_0
         replace hx322_1 := (HB.out.cell (World.block_lt_of_cell? w _ hx322_1)).trans hx322_1
         replace hx322_2 := (HB.out.cell (World.block_lt_of_cell? w _ hx322_2)).trans hx322_2
         replace hx322_3 := (HB.out.cell (World.block_lt_of_cell? w _ hx322_3)).trans hx322_3
         replace hx322_4 := (HB.out.cell (World.block_lt_of_cell? w _ hx322_4)).trans hx322_4
         replace hx322_5 := (HB.out.cell (World.block_lt_of_cell? w _ hx322_5)).trans hx322_5
         replace p322 := eq_true p322
         replace q322 := eq_true q322
         go_wp2_with (first | ((with_reducible refine gd_ 6 rfl ?_); refine box_event rfl (N := 6) rfl (cs := #[.int .i64 0, .int .i64 0, .int .i64 0, .int .i64 0, .int .i64 0, .int .i64 0]) (t := 73) mc142 ?_; intro gb323 hg w14 hbox hb; have BK323 := A_ (hbox); have GW323 := A_ ((mc25 : w.heap.size ≤ gb323)); have GE323 := A_ ((mc25 : w.heap.size ≤ gb323)); replace HB := A_ (below_step mc66 hb); have NB320_323 := A_ ((by rw [hg]; exact Nat.ne_of_lt (blk_lt mc113) : gb320 ≠ gb323)); have NB323_320 := A_ ((by rw [hg]; exact Nat.ne_of_gt (blk_lt mc113) : gb323 ≠ gb320)); replace BK320 := A_ (blk_below mc113 hb); clear hb hbox hg; have hnb15 := NB323_320.out; have hnc15 := NB320_323.out; have hcz16_0 : w14.cell? ⟨gb323, 0, none⟩ = some (.int .i64 0) := bc_ BK323 0 rfl; have hcz16_1 : w14.cell? ⟨gb323, 1, none⟩ = some (.int .i64 0) := bc_ BK323 1 rfl; have hcz16_2 : w14.cell? ⟨gb323, 2, none⟩ = some (.int .i64 0) := bc_ BK323 2 rfl; have hcz16_3 : w14.cell? ⟨gb323, 3, none⟩ = some (.int .i64 0) := bc_ BK323 3 rfl; have hcz16_4 : w14.cell? ⟨gb323, 4, none⟩ = some (.int .i64 0) := bc_ BK323 4 rfl; have hcz16_5 : w14.cell? ⟨gb323, 5, none⟩ = some (.int .i64 0) := bc_ BK323 5 rfl; have hfz16_0 := blk_frozen BK323.out 0; have hfz16_1 := blk_frozen BK323.out 1; have hfz16_2 := blk_frozen BK323.out 2; have hfz16_3 := blk_frozen BK323.out 3; have hfz16_4 := blk_frozen BK323.out 4; have hfz16_5 := blk_frozen BK323.out 5) | ((with_reducible refine gc_ 47 rfl ?_); refine goesL_ (some 19) rfl rfl Tryz.func47 kr_ rfl #[.agg #[.int .i64 ((rd_T73 l0_0 x13_1).f0), .int .i64 ((rd_T73 l0_0 x13_1).f1), .int .i64 ((rd_T73 l0_0 x13_1).f2), .int .i64 ((rd_T73 l0_0 x13_1).f3), .int .i64 ((rd_T73 l0_0 x13_1).f4), .int .i64 ((rd_T73 l0_0 x13_1).f5)]] rfl mc86 ?_; (with_reducible refine (impl_warningLine.calls k1 ((rd_T73 l0_0 x13_1).f0) ((rd_T73 l0_0 x13_1).f1) ((rd_T73 l0_0 x13_1).f2) ((rd_T73 l0_0 x13_1).f3) ((rd_T73 l0_0 x13_1).f4) ((rd_T73 l0_0 x13_1).f5) t324 _ A11.out ?sideG).mono ?_); (case sideG => exact (gw_below HG.out mc34)); rintro e w17 ⟨rfl, hb⟩; refine ⟨_, rfl, ?_⟩; replace BK320 := A_ (blk_below (g := gb320) (o := .cells #[.slice (some ad322) l0_0.length c0_0, .string a0_1, .string a0_2, .int .i64 a0_3] 33 (0, 0)) (by (with_reducible repeat (first | refine blk_drewN ?_ _ | refine blk_drew ?_ | refine blk_alloc ?_ _)); refine blk_far ?_ NB320_323.out _; (with_reducible repeat (first | refine blk_drewN ?_ _ | refine blk_drew ?_ | refine blk_alloc ?_ _)); refine blk_far ?_ NB320_323.out _; (with_reducible repeat (first | refine blk_drewN ?_ _ | refine blk_drew ?_ | refine blk_alloc ?_ _)); refine blk_far ?_ NB320_323.out _; (with_reducible repeat (first | refine blk_drewN ?_ _ | refine blk_drew ?_ | refine blk_alloc ?_ _)); refine blk_far ?_ NB320_323.out _; (with_reducible repeat (first | refine blk_drewN ?_ _ | refine blk_drew ?_ | refine blk_alloc ?_ _)); refine blk_far ?_ NB320_323.out _; (with_reducible repeat (first | refine blk_drewN ?_ _ | refine blk_drew ?_ | refine blk_alloc ?_ _)); refine blk_far ?_ NB320_323.out _; (with_reducible repeat (first | refine blk_drewN ?_ _ | refine blk_drew ?_ | refine blk_alloc ?_ _)); exact BK320.out) hb); replace BK323 := A_ (blk_below (g := gb323) (o := .cells #[.int .i64 ((rd_T73 l0_0 x13_1).f0), .int .i64 ((rd_T73 l0_0 x13_1).f1), .int .i64 ((rd_T73 l0_0 x13_1).f2), .int .i64 ((rd_T73 l0_0 x13_1).f3), .int .i64 ((rd_T73 l0_0 x13_1).f4), .int .i64 ((rd_T73 l0_0 x13_1).f5)] 73 (0, 0)) (by (with_reducible repeat (first | refine blk_drewN ?_ _ | refine blk_drew ?_ | refine blk_alloc ?_ _)); refine blk_put (cs := #[.int .i64 ((rd_T73 l0_0 x13_1).f0), .int .i64 ((rd_T73 l0_0 x13_1).f1), .int .i64 ((rd_T73 l0_0 x13_1).f2), .int .i64 ((rd_T73 l0_0 x13_1).f3), .int .i64 ((rd_T73 l0_0 x13_1).f4), .int .i64 0]) ?_ 5 _ rfl; (with_reducible repeat (first | refine blk_drewN ?_ _ | refine blk_drew ?_ | refine blk_alloc ?_ _)); refine blk_put (cs := #[.int .i64 ((rd_T73 l0_0 x13_1).f0), .int .i64 ((rd_T73 l0_0 x13_1).f1), .int .i64 ((rd_T73 l0_0 x13_1).f2), .int .i64 ((rd_T73 l0_0 x13_1).f3), .int .i64 0, .int .i64 0]) ?_ 4 _ rfl; (with_reducible repeat (first | refine blk_drewN ?_ _ | refine blk_drew ?_ | refine blk_alloc ?_ _)); refine blk_put (cs := #[.int .i64 ((rd_T73 l0_0 x13_1).f0), .int .i64 ((rd_T73 l0_0 x13_1).f1), .int .i64 ((rd_T73 l0_0 x13_1).f2), .int .i64 0, .int .i64 0, .int .i64 0]) ?_ 3 _ rfl; (with_reducible repeat (first | refine blk_drewN ?_ _ | refine blk_drew ?_ | refine blk_alloc ?_ _)); refine blk_put (cs := #[.int .i64 ((rd_T73 l0_0 x13_1).f0), .int .i64 ((rd_T73 l0_0 x13_1).f1), .int .i64 0, .int .i64 0, .int .i64 0, .int .i64 0]) ?_ 2 _ rfl; (with_reducible repeat (first | refine blk_drewN ?_ _ | refine blk_drew ?_ | refine blk_alloc ?_ _)); refine blk_put (cs := #[.int .i64 ((rd_T73 l0_0 x13_1).f0), .int .i64 0, .int .i64 0, .int .i64 0, .int .i64 0, .int .i64 0]) ?_ 1 _ rfl; (with_reducible repeat (first | refine blk_drewN ?_ _ | refine blk_drew ?_ | refine blk_alloc ?_ _)); refine blk_put (cs := #[.int .i64 0, .int .i64 0, .int .i64 0, .int .i64 0, .int .i64 0, .int .i64 0]) ?_ 0 _ rfl; (with_reducible repeat (first | refine blk_drewN ?_ _ | refine blk_drew ?_ | refine blk_alloc ?_ _)); exact BK323.out) hb); replace HB := A_ (below_step mc34 hb); (try clear hb)))
         go_roundg k1
         case measure => have := HK1.out; omega
         case rel => exact ⟨(x4_1 ++ (t324 ++ (⟨#[10]⟩ : ByteArray))), (wrap64 (x13_1 + 1)), mc141, mc141, H', ⟨mc144⟩, ⟨mc113⟩, ⟨by repeat (first | (with_reducible first | exact HB.out | apply below_alloc | apply pw_below_drewN | apply below_drew1 | refine below_set ?_ GE320.out | refine below_set ?_ GE323.out) | exact HB.out)⟩⟩
        ·
         rw [if_neg c13] at H
         exact absurd H (by simp)
       ·
        rw [if_neg c12] at H
        exact absurd H (by simp)
      ·
       rw [if_neg c10] at H
       exact absurd H (by simp)
     ·
      rw [if_neg c9] at H
      exact absurd H (by simp)
    ·
     rw [if_neg c8] at H
     have c8b0 : decide (x13_1 < (l0_0.length : Int)) = false := decide_eq_false c8
     clear c8
     obtain ⟨t325, A180, H⟩ := oB_ H
     have A18 := A_ A180
     clear A180
     by_cases c19 : x4_1.size + t325.size ≤ 9223372036854775807
     ·
      rw [if_pos c19] at H
      have c19b0 := eq_true c19
      have c19b1 : decide (x4_1.size + t325.size ≤ 9223372036854775807) = true := decide_eq_true c19
      try have c19b2 : (9223372036854775807 < x4_1.size + t325.size) = False := eq_false (Nat.not_lt.2 c19)
      by_cases c20 : (x4_1 ++ t325).size + 1 ≤ 9223372036854775807
      ·
       rw [if_pos c20] at H
       have c20b0 := eq_true c20
       have c20b1 : decide ((x4_1 ++ t325).size + 1 ≤ 9223372036854775807) = true := decide_eq_true c20
       try have c20b1z : decide ((x4_1.size + t325.size) + 1 ≤ 9223372036854775807) = true := by have h_ := c20b1; (try simp only [ByteArray.size_append] at h_); exact h_
       try have c20b2 : (9223372036854775807 < (x4_1 ++ t325).size + 1) = False := eq_false (Nat.not_lt.2 c20)
       try have c20b2z : (9223372036854775807 < (x4_1.size + t325.size) + 1) = False := by have h_ := c20b2; (try simp only [ByteArray.size_append] at h_); exact h_
       simp only [Option.some.injEq, Prod.mk.injEq] at H
       obtain ⟨rfl, rfl⟩ := H
       have hcz21_0 : wr.cell? ⟨gb320, 0, none⟩ = some (.slice A0_0 l0_0.length c0_0) := bc_ BK320 0 rfl
       have hcz21_1 : wr.cell? ⟨gb320, 1, none⟩ = some (.string a0_1) := bc_ BK320 1 rfl
       have hcz21_2 : wr.cell? ⟨gb320, 2, none⟩ = some (.string a0_2) := bc_ BK320 2 rfl
       have hcz21_3 : wr.cell? ⟨gb320, 3, none⟩ = some (.int .i64 a0_3) := bc_ BK320 3 rfl
       have hfz21_0 := blk_frozen BK320.out 0
       have hfz21_1 := blk_frozen BK320.out 1
       have hfz21_2 := blk_frozen BK320.out 2
       have hfz21_3 := blk_frozen BK320.out 3
       go_wp2_with (first | ((with_reducible refine gc_ 48 rfl ?_); refine goesL_ (some 27) rfl rfl Tryz.func48 kr_ rfl #[.int .i64 a0_3] rfl mc86 ?_; (with_reducible refine (strconv_Itoa.calls a0_3 t325 _ A18.out ?sideG).mono ?_); (case sideG => exact (gw_below HG.out mc66)); rintro e w22 ⟨rfl, hb⟩; refine ⟨_, rfl, ?_⟩; replace BK320 := A_ (blk_below mc113 hb); replace HB := A_ (below_step mc66 hb); (try clear hb)))
       go_ret2
       exact ⟨mc133, mc66⟩
      ·
       rw [if_neg c20] at H
       exact absurd H (by simp)
     ·
      rw [if_neg c19] at H
      exact absurd H (by simp)
 ·
  replace c3 := Bool.eq_false_iff.mpr c3
  subst c3
  rw [if_neg (show ¬ (false = true) by decide)] at H
  simp only [Option.some.injEq, Prod.mk.injEq] at H
  obtain ⟨rfl, rfl⟩ := H
  go_enter Tryz.func13, Tryz.ntmps13
  go_wp2_with (first | ((with_reducible refine gd_ 1 rfl ?_); refine box_event rfl (N := 1) rfl (cs := #[.slice A0_0 l0_0.length c0_0, .string a0_1, .string a0_2, .int .i64 a0_3]) (t := 33) mc142 ?_; intro gb320 hg w23 hbox hb; have BK320 := A_ (hbox); have GW320 := A_ ((mc45 : w.heap.size ≤ gb320)); have GE320 := A_ ((mc45 : w.heap.size ≤ gb320)); replace HB := A_ (below_step mc89 hb); clear hb hbox hg; have hcz24_0 : w23.cell? ⟨gb320, 0, none⟩ = some (.slice A0_0 l0_0.length c0_0) := bc_ BK320 0 rfl; have hcz24_1 : w23.cell? ⟨gb320, 1, none⟩ = some (.string a0_1) := bc_ BK320 1 rfl; have hcz24_2 : w23.cell? ⟨gb320, 2, none⟩ = some (.string a0_2) := bc_ BK320 2 rfl; have hcz24_3 : w23.cell? ⟨gb320, 3, none⟩ = some (.int .i64 a0_3) := bc_ BK320 3 rfl; have hfz24_0 := blk_frozen BK320.out 0; have hfz24_1 := blk_frozen BK320.out 1; have hfz24_2 := blk_frozen BK320.out 2; have hfz24_3 := blk_frozen BK320.out 3) | ((with_reducible refine gc_ 34 rfl ?_); refine goesL_ (some 8) rfl rfl Tryz.func34 kr_ rfl #[.agg #[.slice A0_0 l0_0.length c0_0, .string a0_1, .string a0_2, .int .i64 a0_3]] rfl mc86 ?_; (with_reducible refine (impl_IsValidConsole.calls k _ _ l0_0 a0_1 a0_2 a0_3 false _ ?side1 ?side2 A2.out ?sideG).mono ?_); (case sideG => exact (gw_below HG.out mc66)); (case side1 => exact mc42); (case side2 => exact HC0_0.out); rintro e w25 ⟨rfl, hb⟩; refine ⟨_, rfl, ?_⟩; replace BK320 := A_ (blk_below mc113 hb); replace HB := A_ (below_step mc66 hb); (try clear hb)))
  go_ret2
  exact ⟨mc133, mc66⟩

/-! ### laws_eqWarning: function 53 -/
def laws_eqWarning.f (a0_0 : Int) (a0_1 : Int) (a0_2 : Int) (a0_3 : Int) (a0_4 : Int) (a0_5 : Int) (a1_0 : Int) (a1_1 : Int) (a1_2 : Int) (a1_3 : Int) (a1_4 : Int) (a1_5 : Int) : Option (Bool) := if a0_0 = a1_0 then (if a0_1 = a1_1 then (if a0_2 = a1_2 then (if a0_3 = a1_3 then (if a0_4 = a1_4 then (if a0_5 = a1_5 then (some true) else (some false)) else (some false)) else (some false)) else (some false)) else (some false)) else (some false)
set_option maxHeartbeats 8000000 in
set_option maxRecDepth 100000 in
theorem laws_eqWarning.calls (a0_0 : Int) (a0_1 : Int) (a0_2 : Int) (a0_3 : Int) (a0_4 : Int) (a0_5 : Int) (a1_0 : Int) (a1_1 : Int) (a1_2 : Int) (a1_3 : Int) (a1_4 : Int) (a1_5 : Int) (r : Bool) (w : World) (h : laws_eqWarning.f a0_0 a0_1 a0_2 a0_3 a0_4 a0_5 a1_0 a1_1 a1_2 a1_3 a1_4 a1_5 = some r) :
  Calls Tryz.prog 53 #[.agg #[.int .i64 a0_0, .int .i64 a0_1, .int .i64 a0_2, .int .i64 a0_3, .int .i64 a0_4, .int .i64 a0_5], .agg #[.int .i64 a1_0, .int .i64 a1_1, .int .i64 a1_2, .int .i64 a1_3, .int .i64 a1_4, .int .i64 a1_5]] w fun e w' => e = .returned (.bool r) ∧ Below w.heap.size w w' := by
 have hu73 := Tryz.underlying73
 have HB := A_ (Below.refl w.heap.size w)
 have H : (if a0_0 = a1_0 then (if a0_1 = a1_1 then (if a0_2 = a1_2 then (if a0_3 = a1_3 then (if a0_4 = a1_4 then (if a0_5 = a1_5 then (some true) else (some false)) else (some false)) else (some false)) else (some false)) else (some false)) else (some false)) = some r := h
 clear h
 by_cases c3 : a0_0 = a1_0
 ·
  rw [if_pos c3] at H
  have c3b0 : (a0_0 == a1_0) = true := beq_iff_eq.mpr c3
  have c3b1 : (a0_0 != a1_0) = false := bne_eq_false_iff_eq.mpr c3
  clear c3
  by_cases c4 : a0_1 = a1_1
  ·
   rw [if_pos c4] at H
   have c4b0 : (a0_1 == a1_1) = true := beq_iff_eq.mpr c4
   have c4b1 : (a0_1 != a1_1) = false := bne_eq_false_iff_eq.mpr c4
   clear c4
   by_cases c5 : a0_2 = a1_2
   ·
    rw [if_pos c5] at H
    have c5b0 : (a0_2 == a1_2) = true := beq_iff_eq.mpr c5
    have c5b1 : (a0_2 != a1_2) = false := bne_eq_false_iff_eq.mpr c5
    clear c5
    by_cases c6 : a0_3 = a1_3
    ·
     rw [if_pos c6] at H
     have c6b0 : (a0_3 == a1_3) = true := beq_iff_eq.mpr c6
     have c6b1 : (a0_3 != a1_3) = false := bne_eq_false_iff_eq.mpr c6
     clear c6
     by_cases c7 : a0_4 = a1_4
     ·
      rw [if_pos c7] at H
      have c7b0 : (a0_4 == a1_4) = true := beq_iff_eq.mpr c7
      have c7b1 : (a0_4 != a1_4) = false := bne_eq_false_iff_eq.mpr c7
      clear c7
      by_cases c8 : a0_5 = a1_5
      ·
       rw [if_pos c8] at H
       have c8b0 : (a0_5 == a1_5) = true := beq_iff_eq.mpr c8
       have c8b1 : (a0_5 != a1_5) = false := bne_eq_false_iff_eq.mpr c8
       clear c8
       obtain rfl := Option.some.inj H
       go_enter Tryz.func53, Tryz.ntmps53
       go_wp2_with (first | ((with_reducible refine gd_ 2 rfl ?_); refine box_event rfl (N := 2) rfl (cs := #[.int .i64 a0_0, .int .i64 a0_1, .int .i64 a0_2, .int .i64 a0_3, .int .i64 a0_4, .int .i64 a0_5]) (t := 73) mc142 ?_; intro gb326 hg w9 hbox hb; have BK326 := A_ (hbox); have GW326 := A_ ((mc45 : w.heap.size ≤ gb326)); have GE326 := A_ ((mc45 : w.heap.size ≤ gb326)); replace HB := A_ (below_step mc89 hb); clear hb hbox hg) | ((with_reducible refine gd_ 3 rfl ?_); refine box_event rfl (N := 3) rfl (cs := #[.int .i64 a1_0, .int .i64 a1_1, .int .i64 a1_2, .int .i64 a1_3, .int .i64 a1_4, .int .i64 a1_5]) (t := 73) mc142 ?_; intro gb327 hg w10 hbox hb; have BK327 := A_ (hbox); have GW327 := A_ ((mc26 : w.heap.size ≤ gb327)); have GE327 := A_ ((mc26 : w.heap.size ≤ gb327)); replace HB := A_ (below_step mc67 hb); have NB326_327 := A_ ((mc79 : gb326 ≠ gb327)); have NB327_326 := A_ ((mc80 : gb327 ≠ gb326)); replace BK326 := A_ (blk_below mc114 hb); clear hb hbox hg; have hnb11 := NB326_327.out; have hnc11 := NB327_326.out; have hcz12_0 : w10.cell? ⟨gb326, 0, none⟩ = some (.int .i64 a0_0) := bc_ BK326 0 rfl; have hcz12_1 : w10.cell? ⟨gb326, 1, none⟩ = some (.int .i64 a0_1) := bc_ BK326 1 rfl; have hcz12_2 : w10.cell? ⟨gb326, 2, none⟩ = some (.int .i64 a0_2) := bc_ BK326 2 rfl; have hcz12_3 : w10.cell? ⟨gb326, 3, none⟩ = some (.int .i64 a0_3) := bc_ BK326 3 rfl; have hcz12_4 : w10.cell? ⟨gb326, 4, none⟩ = some (.int .i64 a0_4) := bc_ BK326 4 rfl; have hcz12_5 : w10.cell? ⟨gb326, 5, none⟩ = some (.int .i64 a0_5) := bc_ BK326 5 rfl; have hfz12_0 := blk_frozen BK326.out 0; have hfz12_1 := blk_frozen BK326.out 1; have hfz12_2 := blk_frozen BK326.out 2; have hfz12_3 := blk_frozen BK326.out 3; have hfz12_4 := blk_frozen BK326.out 4; have hfz12_5 := blk_frozen BK326.out 5; have hcz13_0 : w10.cell? ⟨gb327, 0, none⟩ = some (.int .i64 a1_0) := bc_ BK327 0 rfl; have hcz13_1 : w10.cell? ⟨gb327, 1, none⟩ = some (.int .i64 a1_1) := bc_ BK327 1 rfl; have hcz13_2 : w10.cell? ⟨gb327, 2, none⟩ = some (.int .i64 a1_2) := bc_ BK327 2 rfl; have hcz13_3 : w10.cell? ⟨gb327, 3, none⟩ = some (.int .i64 a1_3) := bc_ BK327 3 rfl; have hcz13_4 : w10.cell? ⟨gb327, 4, none⟩ = some (.int .i64 a1_4) := bc_ BK327 4 rfl; have hcz13_5 : w10.cell? ⟨gb327, 5, none⟩ = some (.int .i64 a1_5) := bc_ BK327 5 rfl; have hfz13_0 := blk_frozen BK327.out 0; have hfz13_1 := blk_frozen BK327.out 1; have hfz13_2 := blk_frozen BK327.out 2; have hfz13_3 := blk_frozen BK327.out 3; have hfz13_4 := blk_frozen BK327.out 4; have hfz13_5 := blk_frozen BK327.out 5))
       go_ret
       exact ⟨mc133, mc39⟩
      ·
       rw [if_neg c8] at H
       have c8b0 : (a0_5 == a1_5) = false := beq_eq_false_iff_ne.mpr c8
       have c8b1 : (a0_5 != a1_5) = true := bne_iff_ne.mpr c8
       obtain rfl := Option.some.inj H
       go_enter Tryz.func53, Tryz.ntmps53
       go_wp2_with (first | ((with_reducible refine gd_ 2 rfl ?_); refine box_event rfl (N := 2) rfl (cs := #[.int .i64 a0_0, .int .i64 a0_1, .int .i64 a0_2, .int .i64 a0_3, .int .i64 a0_4, .int .i64 a0_5]) (t := 73) mc142 ?_; intro gb326 hg w14 hbox hb; have BK326 := A_ (hbox); have GW326 := A_ ((mc45 : w.heap.size ≤ gb326)); have GE326 := A_ ((mc45 : w.heap.size ≤ gb326)); replace HB := A_ (below_step mc89 hb); clear hb hbox hg) | ((with_reducible refine gd_ 3 rfl ?_); refine box_event rfl (N := 3) rfl (cs := #[.int .i64 a1_0, .int .i64 a1_1, .int .i64 a1_2, .int .i64 a1_3, .int .i64 a1_4, .int .i64 a1_5]) (t := 73) mc142 ?_; intro gb327 hg w15 hbox hb; have BK327 := A_ (hbox); have GW327 := A_ ((mc26 : w.heap.size ≤ gb327)); have GE327 := A_ ((mc26 : w.heap.size ≤ gb327)); replace HB := A_ (below_step mc67 hb); have NB326_327 := A_ ((mc79 : gb326 ≠ gb327)); have NB327_326 := A_ ((mc80 : gb327 ≠ gb326)); replace BK326 := A_ (blk_below mc114 hb); clear hb hbox hg; have hnb16 := NB326_327.out; have hnc16 := NB327_326.out; have hcz17_0 : w15.cell? ⟨gb326, 0, none⟩ = some (.int .i64 a0_0) := bc_ BK326 0 rfl; have hcz17_1 : w15.cell? ⟨gb326, 1, none⟩ = some (.int .i64 a0_1) := bc_ BK326 1 rfl; have hcz17_2 : w15.cell? ⟨gb326, 2, none⟩ = some (.int .i64 a0_2) := bc_ BK326 2 rfl; have hcz17_3 : w15.cell? ⟨gb326, 3, none⟩ = some (.int .i64 a0_3) := bc_ BK326 3 rfl; have hcz17_4 : w15.cell? ⟨gb326, 4, none⟩ = some (.int .i64 a0_4) := bc_ BK326 4 rfl; have hcz17_5 : w15.cell? ⟨gb326, 5, none⟩ = some (.int .i64 a0_5) := bc_ BK326 5 rfl; have hfz17_0 := blk_frozen BK326.out 0; have hfz17_1 := blk_frozen BK326.out 1; have hfz17_2 := blk_frozen BK326.out 2; have hfz17_3 := blk_frozen BK326.out 3; have hfz17_4 := blk_frozen BK326.out 4; have hfz17_5 := blk_frozen BK326.out 5; have hcz18_0 : w15.cell? ⟨gb327, 0, none⟩ = some (.int .i64 a1_0) := bc_ BK327 0 rfl; have hcz18_1 : w15.cell? ⟨gb327, 1, none⟩ = some (.int .i64 a1_1) := bc_ BK327 1 rfl; have hcz18_2 : w15.cell? ⟨gb327, 2, none⟩ = some (.int .i64 a1_2) := bc_ BK327 2 rfl; have hcz18_3 : w15.cell? ⟨gb327, 3, none⟩ = some (.int .i64 a1_3) := bc_ BK327 3 rfl; have hcz18_4 : w15.cell? ⟨gb327, 4, none⟩ = some (.int .i64 a1_4) := bc_ BK327 4 rfl; have hcz18_5 : w15.cell? ⟨gb327, 5, none⟩ = some (.int .i64 a1_5) := bc_ BK327 5 rfl; have hfz18_0 := blk_frozen BK327.out 0; have hfz18_1 := blk_frozen BK327.out 1; have hfz18_2 := blk_frozen BK327.out 2; have hfz18_3 := blk_frozen BK327.out 3; have hfz18_4 := blk_frozen BK327.out 4; have hfz18_5 := blk_frozen BK327.out 5))
       go_ret
       exact ⟨mc133, mc39⟩
     ·
      rw [if_neg c7] at H
      have c7b0 : (a0_4 == a1_4) = false := beq_eq_false_iff_ne.mpr c7
      have c7b1 : (a0_4 != a1_4) = true := bne_iff_ne.mpr c7
      obtain rfl := Option.some.inj H
      go_enter Tryz.func53, Tryz.ntmps53
      go_wp2_with (first | ((with_reducible refine gd_ 2 rfl ?_); refine box_event rfl (N := 2) rfl (cs := #[.int .i64 a0_0, .int .i64 a0_1, .int .i64 a0_2, .int .i64 a0_3, .int .i64 a0_4, .int .i64 a0_5]) (t := 73) mc142 ?_; intro gb326 hg w19 hbox hb; have BK326 := A_ (hbox); have GW326 := A_ ((mc45 : w.heap.size ≤ gb326)); have GE326 := A_ ((mc45 : w.heap.size ≤ gb326)); replace HB := A_ (below_step mc89 hb); clear hb hbox hg) | ((with_reducible refine gd_ 3 rfl ?_); refine box_event rfl (N := 3) rfl (cs := #[.int .i64 a1_0, .int .i64 a1_1, .int .i64 a1_2, .int .i64 a1_3, .int .i64 a1_4, .int .i64 a1_5]) (t := 73) mc142 ?_; intro gb327 hg w20 hbox hb; have BK327 := A_ (hbox); have GW327 := A_ ((mc26 : w.heap.size ≤ gb327)); have GE327 := A_ ((mc26 : w.heap.size ≤ gb327)); replace HB := A_ (below_step mc67 hb); have NB326_327 := A_ ((mc79 : gb326 ≠ gb327)); have NB327_326 := A_ ((mc80 : gb327 ≠ gb326)); replace BK326 := A_ (blk_below mc114 hb); clear hb hbox hg; have hnb21 := NB326_327.out; have hnc21 := NB327_326.out; have hcz22_0 : w20.cell? ⟨gb326, 0, none⟩ = some (.int .i64 a0_0) := bc_ BK326 0 rfl; have hcz22_1 : w20.cell? ⟨gb326, 1, none⟩ = some (.int .i64 a0_1) := bc_ BK326 1 rfl; have hcz22_2 : w20.cell? ⟨gb326, 2, none⟩ = some (.int .i64 a0_2) := bc_ BK326 2 rfl; have hcz22_3 : w20.cell? ⟨gb326, 3, none⟩ = some (.int .i64 a0_3) := bc_ BK326 3 rfl; have hcz22_4 : w20.cell? ⟨gb326, 4, none⟩ = some (.int .i64 a0_4) := bc_ BK326 4 rfl; have hcz22_5 : w20.cell? ⟨gb326, 5, none⟩ = some (.int .i64 a0_5) := bc_ BK326 5 rfl; have hfz22_0 := blk_frozen BK326.out 0; have hfz22_1 := blk_frozen BK326.out 1; have hfz22_2 := blk_frozen BK326.out 2; have hfz22_3 := blk_frozen BK326.out 3; have hfz22_4 := blk_frozen BK326.out 4; have hfz22_5 := blk_frozen BK326.out 5; have hcz23_0 : w20.cell? ⟨gb327, 0, none⟩ = some (.int .i64 a1_0) := bc_ BK327 0 rfl; have hcz23_1 : w20.cell? ⟨gb327, 1, none⟩ = some (.int .i64 a1_1) := bc_ BK327 1 rfl; have hcz23_2 : w20.cell? ⟨gb327, 2, none⟩ = some (.int .i64 a1_2) := bc_ BK327 2 rfl; have hcz23_3 : w20.cell? ⟨gb327, 3, none⟩ = some (.int .i64 a1_3) := bc_ BK327 3 rfl; have hcz23_4 : w20.cell? ⟨gb327, 4, none⟩ = some (.int .i64 a1_4) := bc_ BK327 4 rfl; have hcz23_5 : w20.cell? ⟨gb327, 5, none⟩ = some (.int .i64 a1_5) := bc_ BK327 5 rfl; have hfz23_0 := blk_frozen BK327.out 0; have hfz23_1 := blk_frozen BK327.out 1; have hfz23_2 := blk_frozen BK327.out 2; have hfz23_3 := blk_frozen BK327.out 3; have hfz23_4 := blk_frozen BK327.out 4; have hfz23_5 := blk_frozen BK327.out 5))
      go_ret
      exact ⟨mc133, mc39⟩
    ·
     rw [if_neg c6] at H
     have c6b0 : (a0_3 == a1_3) = false := beq_eq_false_iff_ne.mpr c6
     have c6b1 : (a0_3 != a1_3) = true := bne_iff_ne.mpr c6
     obtain rfl := Option.some.inj H
     go_enter Tryz.func53, Tryz.ntmps53
     go_wp2_with (first | ((with_reducible refine gd_ 2 rfl ?_); refine box_event rfl (N := 2) rfl (cs := #[.int .i64 a0_0, .int .i64 a0_1, .int .i64 a0_2, .int .i64 a0_3, .int .i64 a0_4, .int .i64 a0_5]) (t := 73) mc142 ?_; intro gb326 hg w24 hbox hb; have BK326 := A_ (hbox); have GW326 := A_ ((mc45 : w.heap.size ≤ gb326)); have GE326 := A_ ((mc45 : w.heap.size ≤ gb326)); replace HB := A_ (below_step mc89 hb); clear hb hbox hg) | ((with_reducible refine gd_ 3 rfl ?_); refine box_event rfl (N := 3) rfl (cs := #[.int .i64 a1_0, .int .i64 a1_1, .int .i64 a1_2, .int .i64 a1_3, .int .i64 a1_4, .int .i64 a1_5]) (t := 73) mc142 ?_; intro gb327 hg w25 hbox hb; have BK327 := A_ (hbox); have GW327 := A_ ((mc26 : w.heap.size ≤ gb327)); have GE327 := A_ ((mc26 : w.heap.size ≤ gb327)); replace HB := A_ (below_step mc67 hb); have NB326_327 := A_ ((mc79 : gb326 ≠ gb327)); have NB327_326 := A_ ((mc80 : gb327 ≠ gb326)); replace BK326 := A_ (blk_below mc114 hb); clear hb hbox hg; have hnb26 := NB326_327.out; have hnc26 := NB327_326.out; have hcz27_0 : w25.cell? ⟨gb326, 0, none⟩ = some (.int .i64 a0_0) := bc_ BK326 0 rfl; have hcz27_1 : w25.cell? ⟨gb326, 1, none⟩ = some (.int .i64 a0_1) := bc_ BK326 1 rfl; have hcz27_2 : w25.cell? ⟨gb326, 2, none⟩ = some (.int .i64 a0_2) := bc_ BK326 2 rfl; have hcz27_3 : w25.cell? ⟨gb326, 3, none⟩ = some (.int .i64 a0_3) := bc_ BK326 3 rfl; have hcz27_4 : w25.cell? ⟨gb326, 4, none⟩ = some (.int .i64 a0_4) := bc_ BK326 4 rfl; have hcz27_5 : w25.cell? ⟨gb326, 5, none⟩ = some (.int .i64 a0_5) := bc_ BK326 5 rfl; have hfz27_0 := blk_frozen BK326.out 0; have hfz27_1 := blk_frozen BK326.out 1; have hfz27_2 := blk_frozen BK326.out 2; have hfz27_3 := blk_frozen BK326.out 3; have hfz27_4 := blk_frozen BK326.out 4; have hfz27_5 := blk_frozen BK326.out 5; have hcz28_0 : w25.cell? ⟨gb327, 0, none⟩ = some (.int .i64 a1_0) := bc_ BK327 0 rfl; have hcz28_1 : w25.cell? ⟨gb327, 1, none⟩ = some (.int .i64 a1_1) := bc_ BK327 1 rfl; have hcz28_2 : w25.cell? ⟨gb327, 2, none⟩ = some (.int .i64 a1_2) := bc_ BK327 2 rfl; have hcz28_3 : w25.cell? ⟨gb327, 3, none⟩ = some (.int .i64 a1_3) := bc_ BK327 3 rfl; have hcz28_4 : w25.cell? ⟨gb327, 4, none⟩ = some (.int .i64 a1_4) := bc_ BK327 4 rfl; have hcz28_5 : w25.cell? ⟨gb327, 5, none⟩ = some (.int .i64 a1_5) := bc_ BK327 5 rfl; have hfz28_0 := blk_frozen BK327.out 0; have hfz28_1 := blk_frozen BK327.out 1; have hfz28_2 := blk_frozen BK327.out 2; have hfz28_3 := blk_frozen BK327.out 3; have hfz28_4 := blk_frozen BK327.out 4; have hfz28_5 := blk_frozen BK327.out 5))
     go_ret
     exact ⟨mc133, mc39⟩
   ·
    rw [if_neg c5] at H
    have c5b0 : (a0_2 == a1_2) = false := beq_eq_false_iff_ne.mpr c5
    have c5b1 : (a0_2 != a1_2) = true := bne_iff_ne.mpr c5
    obtain rfl := Option.some.inj H
    go_enter Tryz.func53, Tryz.ntmps53
    go_wp2_with (first | ((with_reducible refine gd_ 2 rfl ?_); refine box_event rfl (N := 2) rfl (cs := #[.int .i64 a0_0, .int .i64 a0_1, .int .i64 a0_2, .int .i64 a0_3, .int .i64 a0_4, .int .i64 a0_5]) (t := 73) mc142 ?_; intro gb326 hg w29 hbox hb; have BK326 := A_ (hbox); have GW326 := A_ ((mc45 : w.heap.size ≤ gb326)); have GE326 := A_ ((mc45 : w.heap.size ≤ gb326)); replace HB := A_ (below_step mc89 hb); clear hb hbox hg) | ((with_reducible refine gd_ 3 rfl ?_); refine box_event rfl (N := 3) rfl (cs := #[.int .i64 a1_0, .int .i64 a1_1, .int .i64 a1_2, .int .i64 a1_3, .int .i64 a1_4, .int .i64 a1_5]) (t := 73) mc142 ?_; intro gb327 hg w30 hbox hb; have BK327 := A_ (hbox); have GW327 := A_ ((mc26 : w.heap.size ≤ gb327)); have GE327 := A_ ((mc26 : w.heap.size ≤ gb327)); replace HB := A_ (below_step mc67 hb); have NB326_327 := A_ ((mc79 : gb326 ≠ gb327)); have NB327_326 := A_ ((mc80 : gb327 ≠ gb326)); replace BK326 := A_ (blk_below mc114 hb); clear hb hbox hg; have hnb31 := NB326_327.out; have hnc31 := NB327_326.out; have hcz32_0 : w30.cell? ⟨gb326, 0, none⟩ = some (.int .i64 a0_0) := bc_ BK326 0 rfl; have hcz32_1 : w30.cell? ⟨gb326, 1, none⟩ = some (.int .i64 a0_1) := bc_ BK326 1 rfl; have hcz32_2 : w30.cell? ⟨gb326, 2, none⟩ = some (.int .i64 a0_2) := bc_ BK326 2 rfl; have hcz32_3 : w30.cell? ⟨gb326, 3, none⟩ = some (.int .i64 a0_3) := bc_ BK326 3 rfl; have hcz32_4 : w30.cell? ⟨gb326, 4, none⟩ = some (.int .i64 a0_4) := bc_ BK326 4 rfl; have hcz32_5 : w30.cell? ⟨gb326, 5, none⟩ = some (.int .i64 a0_5) := bc_ BK326 5 rfl; have hfz32_0 := blk_frozen BK326.out 0; have hfz32_1 := blk_frozen BK326.out 1; have hfz32_2 := blk_frozen BK326.out 2; have hfz32_3 := blk_frozen BK326.out 3; have hfz32_4 := blk_frozen BK326.out 4; have hfz32_5 := blk_frozen BK326.out 5; have hcz33_0 : w30.cell? ⟨gb327, 0, none⟩ = some (.int .i64 a1_0) := bc_ BK327 0 rfl; have hcz33_1 : w30.cell? ⟨gb327, 1, none⟩ = some (.int .i64 a1_1) := bc_ BK327 1 rfl; have hcz33_2 : w30.cell? ⟨gb327, 2, none⟩ = some (.int .i64 a1_2) := bc_ BK327 2 rfl; have hcz33_3 : w30.cell? ⟨gb327, 3, none⟩ = some (.int .i64 a1_3) := bc_ BK327 3 rfl; have hcz33_4 : w30.cell? ⟨gb327, 4, none⟩ = some (.int .i64 a1_4) := bc_ BK327 4 rfl; have hcz33_5 : w30.cell? ⟨gb327, 5, none⟩ = some (.int .i64 a1_5) := bc_ BK327 5 rfl; have hfz33_0 := blk_frozen BK327.out 0; have hfz33_1 := blk_frozen BK327.out 1; have hfz33_2 := blk_frozen BK327.out 2; have hfz33_3 := blk_frozen BK327.out 3; have hfz33_4 := blk_frozen BK327.out 4; have hfz33_5 := blk_frozen BK327.out 5))
    go_ret
    exact ⟨mc133, mc39⟩
  ·
   rw [if_neg c4] at H
   have c4b0 : (a0_1 == a1_1) = false := beq_eq_false_iff_ne.mpr c4
   have c4b1 : (a0_1 != a1_1) = true := bne_iff_ne.mpr c4
   obtain rfl := Option.some.inj H
   go_enter Tryz.func53, Tryz.ntmps53
   go_wp2_with (first | ((with_reducible refine gd_ 2 rfl ?_); refine box_event rfl (N := 2) rfl (cs := #[.int .i64 a0_0, .int .i64 a0_1, .int .i64 a0_2, .int .i64 a0_3, .int .i64 a0_4, .int .i64 a0_5]) (t := 73) mc142 ?_; intro gb326 hg w34 hbox hb; have BK326 := A_ (hbox); have GW326 := A_ ((mc45 : w.heap.size ≤ gb326)); have GE326 := A_ ((mc45 : w.heap.size ≤ gb326)); replace HB := A_ (below_step mc89 hb); clear hb hbox hg) | ((with_reducible refine gd_ 3 rfl ?_); refine box_event rfl (N := 3) rfl (cs := #[.int .i64 a1_0, .int .i64 a1_1, .int .i64 a1_2, .int .i64 a1_3, .int .i64 a1_4, .int .i64 a1_5]) (t := 73) mc142 ?_; intro gb327 hg w35 hbox hb; have BK327 := A_ (hbox); have GW327 := A_ ((mc26 : w.heap.size ≤ gb327)); have GE327 := A_ ((mc26 : w.heap.size ≤ gb327)); replace HB := A_ (below_step mc67 hb); have NB326_327 := A_ ((mc79 : gb326 ≠ gb327)); have NB327_326 := A_ ((mc80 : gb327 ≠ gb326)); replace BK326 := A_ (blk_below mc114 hb); clear hb hbox hg; have hnb36 := NB326_327.out; have hnc36 := NB327_326.out; have hcz37_0 : w35.cell? ⟨gb326, 0, none⟩ = some (.int .i64 a0_0) := bc_ BK326 0 rfl; have hcz37_1 : w35.cell? ⟨gb326, 1, none⟩ = some (.int .i64 a0_1) := bc_ BK326 1 rfl; have hcz37_2 : w35.cell? ⟨gb326, 2, none⟩ = some (.int .i64 a0_2) := bc_ BK326 2 rfl; have hcz37_3 : w35.cell? ⟨gb326, 3, none⟩ = some (.int .i64 a0_3) := bc_ BK326 3 rfl; have hcz37_4 : w35.cell? ⟨gb326, 4, none⟩ = some (.int .i64 a0_4) := bc_ BK326 4 rfl; have hcz37_5 : w35.cell? ⟨gb326, 5, none⟩ = some (.int .i64 a0_5) := bc_ BK326 5 rfl; have hfz37_0 := blk_frozen BK326.out 0; have hfz37_1 := blk_frozen BK326.out 1; have hfz37_2 := blk_frozen BK326.out 2; have hfz37_3 := blk_frozen BK326.out 3; have hfz37_4 := blk_frozen BK326.out 4; have hfz37_5 := blk_frozen BK326.out 5; have hcz38_0 : w35.cell? ⟨gb327, 0, none⟩ = some (.int .i64 a1_0) := bc_ BK327 0 rfl; have hcz38_1 : w35.cell? ⟨gb327, 1, none⟩ = some (.int .i64 a1_1) := bc_ BK327 1 rfl; have hcz38_2 : w35.cell? ⟨gb327, 2, none⟩ = some (.int .i64 a1_2) := bc_ BK327 2 rfl; have hcz38_3 : w35.cell? ⟨gb327, 3, none⟩ = some (.int .i64 a1_3) := bc_ BK327 3 rfl; have hcz38_4 : w35.cell? ⟨gb327, 4, none⟩ = some (.int .i64 a1_4) := bc_ BK327 4 rfl; have hcz38_5 : w35.cell? ⟨gb327, 5, none⟩ = some (.int .i64 a1_5) := bc_ BK327 5 rfl; have hfz38_0 := blk_frozen BK327.out 0; have hfz38_1 := blk_frozen BK327.out 1; have hfz38_2 := blk_frozen BK327.out 2; have hfz38_3 := blk_frozen BK327.out 3; have hfz38_4 := blk_frozen BK327.out 4; have hfz38_5 := blk_frozen BK327.out 5))
   go_ret
   exact ⟨mc133, mc39⟩
 ·
  rw [if_neg c3] at H
  have c3b0 : (a0_0 == a1_0) = false := beq_eq_false_iff_ne.mpr c3
  have c3b1 : (a0_0 != a1_0) = true := bne_iff_ne.mpr c3
  obtain rfl := Option.some.inj H
  go_enter Tryz.func53, Tryz.ntmps53
  go_wp2_with (first | ((with_reducible refine gd_ 2 rfl ?_); refine box_event rfl (N := 2) rfl (cs := #[.int .i64 a0_0, .int .i64 a0_1, .int .i64 a0_2, .int .i64 a0_3, .int .i64 a0_4, .int .i64 a0_5]) (t := 73) mc142 ?_; intro gb326 hg w39 hbox hb; have BK326 := A_ (hbox); have GW326 := A_ ((mc45 : w.heap.size ≤ gb326)); have GE326 := A_ ((mc45 : w.heap.size ≤ gb326)); replace HB := A_ (below_step mc89 hb); clear hb hbox hg) | ((with_reducible refine gd_ 3 rfl ?_); refine box_event rfl (N := 3) rfl (cs := #[.int .i64 a1_0, .int .i64 a1_1, .int .i64 a1_2, .int .i64 a1_3, .int .i64 a1_4, .int .i64 a1_5]) (t := 73) mc142 ?_; intro gb327 hg w40 hbox hb; have BK327 := A_ (hbox); have GW327 := A_ ((mc26 : w.heap.size ≤ gb327)); have GE327 := A_ ((mc26 : w.heap.size ≤ gb327)); replace HB := A_ (below_step mc67 hb); have NB326_327 := A_ ((mc79 : gb326 ≠ gb327)); have NB327_326 := A_ ((mc80 : gb327 ≠ gb326)); replace BK326 := A_ (blk_below mc114 hb); clear hb hbox hg; have hnb41 := NB326_327.out; have hnc41 := NB327_326.out; have hcz42_0 : w40.cell? ⟨gb326, 0, none⟩ = some (.int .i64 a0_0) := bc_ BK326 0 rfl; have hcz42_1 : w40.cell? ⟨gb326, 1, none⟩ = some (.int .i64 a0_1) := bc_ BK326 1 rfl; have hcz42_2 : w40.cell? ⟨gb326, 2, none⟩ = some (.int .i64 a0_2) := bc_ BK326 2 rfl; have hcz42_3 : w40.cell? ⟨gb326, 3, none⟩ = some (.int .i64 a0_3) := bc_ BK326 3 rfl; have hcz42_4 : w40.cell? ⟨gb326, 4, none⟩ = some (.int .i64 a0_4) := bc_ BK326 4 rfl; have hcz42_5 : w40.cell? ⟨gb326, 5, none⟩ = some (.int .i64 a0_5) := bc_ BK326 5 rfl; have hfz42_0 := blk_frozen BK326.out 0; have hfz42_1 := blk_frozen BK326.out 1; have hfz42_2 := blk_frozen BK326.out 2; have hfz42_3 := blk_frozen BK326.out 3; have hfz42_4 := blk_frozen BK326.out 4; have hfz42_5 := blk_frozen BK326.out 5; have hcz43_0 : w40.cell? ⟨gb327, 0, none⟩ = some (.int .i64 a1_0) := bc_ BK327 0 rfl; have hcz43_1 : w40.cell? ⟨gb327, 1, none⟩ = some (.int .i64 a1_1) := bc_ BK327 1 rfl; have hcz43_2 : w40.cell? ⟨gb327, 2, none⟩ = some (.int .i64 a1_2) := bc_ BK327 2 rfl; have hcz43_3 : w40.cell? ⟨gb327, 3, none⟩ = some (.int .i64 a1_3) := bc_ BK327 3 rfl; have hcz43_4 : w40.cell? ⟨gb327, 4, none⟩ = some (.int .i64 a1_4) := bc_ BK327 4 rfl; have hcz43_5 : w40.cell? ⟨gb327, 5, none⟩ = some (.int .i64 a1_5) := bc_ BK327 5 rfl; have hfz43_0 := blk_frozen BK327.out 0; have hfz43_1 := blk_frozen BK327.out 1; have hfz43_2 := blk_frozen BK327.out 2; have hfz43_3 := blk_frozen BK327.out 3; have hfz43_4 := blk_frozen BK327.out 4; have hfz43_5 := blk_frozen BK327.out 5))
  go_ret
  exact ⟨mc133, mc39⟩

/-! ### laws_eqWarningS: function 21 -/
def laws_eqWarningS.l0 : Nat → List (S73) → List (S73) → Int → Option (Bool)
 | 0, _, _, _ => none
 | k + 1, x0, x1, x5 => if x5 < (x0.length : Int) then (if 0 ≤ x5 then (if x5 < (x1.length : Int) then ((laws_eqWarning.f ((rd_T73 x0 x5).f0) ((rd_T73 x0 x5).f1) ((rd_T73 x0 x5).f2) ((rd_T73 x0 x5).f3) ((rd_T73 x0 x5).f4) ((rd_T73 x0 x5).f5) ((rd_T73 x1 x5).f0) ((rd_T73 x1 x5).f1) ((rd_T73 x1 x5).f2) ((rd_T73 x1 x5).f3) ((rd_T73 x1 x5).f4) ((rd_T73 x1 x5).f5)).bind fun t330 => (if t330 = true then (laws_eqWarningS.l0 k x0 x1 (wrap64 (x5 + 1))) else (some false))) else (none)) else (none)) else (some true)
def laws_eqWarningS.f (k : Nat) (l0 : List (S73)) (l1 : List (S73)) : Option (Bool) := if (l0.length : Int) = (l1.length : Int) then (laws_eqWarningS.l0 k l0 l1 0) else (some false)
def laws_eqWarningS.T6 : Bool × List (List Nat × List Nat) := (true, [([], []), ([], []), ([0, 1], [0, 1]), ([2], [2]), ([], []), ([], []), ([4, 5], [4, 5]), ([6], [6]), ([3, 7], [3, 7]), ([8], [8])])
def laws_eqWarningS.B6 : List Nat := [0, 0, 3, 7, 0, 0, 48, 112, 255, 511]
theorem laws_eqWarningS.tab6 : rtab .any (opsOf Tryz.f21 6) = laws_eqWarningS.T6 := by kernel_rfl
theorem laws_eqWarningS.bits6 : waitsOk laws_eqWarningS.T6.2 laws_eqWarningS.B6 = true := by kernel_rfl
set_option maxHeartbeats 8000000 in
set_option maxRecDepth 100000 in
theorem laws_eqWarningS.calls (k : Nat) (A0 : Option Addr) (c0 : Nat) (l0 : List (S73)) (A1 : Option Addr) (c1 : Nat) (l1 : List (S73)) (r : Bool) (w : World) (hr0 : Kd.C k73 w A0 l0.length l0) (hc0 : l0.length ≤ c0) (hr1 : Kd.C k73 w A1 l1.length l1) (hc1 : l1.length ≤ c1) (h : laws_eqWarningS.f k l0 l1 = some r) :
  Calls Tryz.prog 21 #[.slice A0 l0.length c0, .slice A1 l1.length c1] w fun e w' => e = .returned (.bool r) ∧ Below w.heap.size w w' := by
 have hu73 := Tryz.underlying73
 have HR0 := A_ hr0
 have HC0 := A_ hc0
 clear hr0 hc0
 have HR1 := A_ hr1
 have HC1 := A_ hc1
 clear hr1 hc1
 have HB := A_ (Below.refl w.heap.size w)
 have H : (if (l0.length : Int) = (l1.length : Int) then (laws_eqWarningS.l0 k l0 l1 0) else (some false)) = some r := h
 clear h
 by_cases c3 : (l0.length : Int) = (l1.length : Int)
 ·
  rw [if_pos c3] at H
  have c3b0 : ((l0.length : Int) == (l1.length : Int)) = true := beq_iff_eq.mpr c3
  have c3b1 : ((l0.length : Int) != (l1.length : Int)) = false := bne_eq_false_iff_eq.mpr c3
  have c3b2 : (l0.length == l1.length) = true := by first | simpa using c3 | (simp at c3 ⊢; omega)
  clear c3
  have H' := A_ H
  clear H
  go_enter Tryz.func21, Tryz.ntmps21
  go_wp2
  go_loopg [5] k (fun kq v5 w' => ∃ (x5_1 : Int), v5 = .int .i64 x5_1 ∧ Aside0 (laws_eqWarningS.l0 kq l0 l1 x5_1 = some r) ∧ Aside0 (kq ≤ k) ∧ Aside0 (Below w.heap.size w w'))
  case atStart => exact ⟨(0), mc141, H', ⟨Nat.le_refl _⟩, ⟨mc89⟩⟩
  case round =>
   clear H'
   try clear p2
   try clear c3b0
   try clear c3b1
   try clear c3b2
   obtain ⟨x5_1, rfl, HA, HK1, HB⟩ := hrel
   cases gk with
   | zero => exact absurd HA.out (by simp [laws_eqWarningS.l0])
   | succ k1 =>
    have H := HA.out
    clear HA
    simp only [laws_eqWarningS.l0] at H
    by_cases c4 : x5_1 < (l0.length : Int)
    ·
     rw [if_pos c4] at H
     have c4b0 : decide (x5_1 < (l0.length : Int)) = true := decide_eq_true c4
     clear c4
     by_cases c5 : 0 ≤ x5_1
     ·
      rw [if_pos c5] at H
      have c5b0 : decide (0 ≤ x5_1) = true := decide_eq_true c5
      clear c5
      by_cases c6 : x5_1 < (l1.length : Int)
      ·
       rw [if_pos c6] at H
       have c6b0 : decide (x5_1 < (l1.length : Int)) = true := decide_eq_true c6
       clear c6
       obtain ⟨t330, A70, H⟩ := oB_ H
       have A7 := A_ A70
       clear A70
       by_cases c8 : t330 = true
       ·
        subst c8
        rw [if_pos rfl] at H
        have H' := A_ H
        clear H
        try go_wp2
        replace HB := A_ (below_drew1 HB.out)
        have p328 : 0 ≤ (x5_1 : Int) := of_decide_eq_true mc139
        have q328 : x5_1 < (l0.length : Int) := of_decide_eq_true mc139
        obtain ⟨ad328, e328, hx328_0, hx328_1, hx328_2, hx328_3, hx328_4, hx328_5⟩ := at_T73 HR0.out x5_1 p328 q328
        have hw328_5 := hx328_5
        have hw328_4 := hx328_4
        have hw328_3 := hx328_3
        have hw328_2 := hx328_2
        have hw328_1 := hx328_1
        have hw328_0 := hx328_0
        cases e328
        replace hx328_0 := (HB.out.cell (World.block_lt_of_cell? w _ hx328_0)).trans hx328_0
        replace hx328_1 := (HB.out.cell (World.block_lt_of_cell? w _ hx328_1)).trans hx328_1
        replace hx328_2 := (HB.out.cell (World.block_lt_of_cell? w _ hx328_2)).trans hx328_2
        replace hx328_3 := (HB.out.cell (World.block_lt_of_cell? w _ hx328_3)).trans hx328_3
        replace hx328_4 := (HB.out.cell (World.block_lt_of_cell? w _ hx328_4)).trans hx328_4
        replace hx328_5 := (HB.out.cell (World.block_lt_of_cell? w _ hx328_5)).trans hx328_5
        replace p328 := eq_true p328
        replace q328 := eq_true q328
        have p329 : 0 ≤ (x5_1 : Int) := of_decide_eq_true mc139
        have q329 : x5_1 < (l1.length : Int) := of_decide_eq_true mc139
        obtain ⟨ad329, e329, hx329_0, hx329_1, hx329_2, hx329_3, hx329_4, hx329_5⟩ := at_T73 HR1.out x5_1 p329 q329
        have hw329_5 := hx329_5
        have hw329_4 := hx329_4
        have hw329_3 := hx329_3
        have hw329_2 := hx329_2
        have hw329_1 := hx329_1
        have hw329_0 := hx329_0
        cases e329
        replace hx329_0 := (HB.out.cell (World.block_lt_of_cell? w _ hx329_0)).trans hx329_0
        replace hx329_1 := (HB.out.cell (World.block_lt_of_cell? w _ hx329_1)).trans hx329_1
        replace hx329_2 := (HB.out.cell (World.block_lt_of_cell? w _ hx329_2)).trans hx329_2
        replace hx329_3 := (HB.out.cell (World.block_lt_of_cell? w _ hx329_3)).trans hx329_3
        replace hx329_4 := (HB.out.cell (World.block_lt_of_cell? w _ hx329_4)).trans hx329_4
        replace hx329_5 := (HB.out.cell (World.block_lt_of_cell? w _ hx329_5)).trans hx329_5
        replace p329 := eq_true p329
        replace q329 := eq_true q329
        refine start_ (n := 10) (S := fun w' => w'.cell? (ad328.add ((x5_1).toNat * 6)) = some (.int .i64 ((rd_T73 l0 x5_1).f0)) ∧ w'.cell? ⟨(ad328.add ((x5_1).toNat * 6)).block, (ad328.add ((x5_1).toNat * 6)).off + 1, none⟩ = some (.int .i64 ((rd_T73 l0 x5_1).f1)) ∧ w'.cell? ⟨(ad328.add ((x5_1).toNat * 6)).block, (ad328.add ((x5_1).toNat * 6)).off + 2, none⟩ = some (.int .i64 ((rd_T73 l0 x5_1).f2)) ∧ w'.cell? ⟨(ad328.add ((x5_1).toNat * 6)).block, (ad328.add ((x5_1).toNat * 6)).off + 3, none⟩ = some (.int .i64 ((rd_T73 l0 x5_1).f3)) ∧ w'.cell? ⟨(ad328.add ((x5_1).toNat * 6)).block, (ad328.add ((x5_1).toNat * 6)).off + 4, none⟩ = some (.int .i64 ((rd_T73 l0 x5_1).f4)) ∧ w'.cell? ⟨(ad328.add ((x5_1).toNat * 6)).block, (ad328.add ((x5_1).toNat * 6)).off + 5, none⟩ = some (.int .i64 ((rd_T73 l0 x5_1).f5)) ∧ w'.cell? (ad329.add ((x5_1).toNat * 6)) = some (.int .i64 ((rd_T73 l1 x5_1).f0)) ∧ w'.cell? ⟨(ad329.add ((x5_1).toNat * 6)).block, (ad329.add ((x5_1).toNat * 6)).off + 1, none⟩ = some (.int .i64 ((rd_T73 l1 x5_1).f1)) ∧ w'.cell? ⟨(ad329.add ((x5_1).toNat * 6)).block, (ad329.add ((x5_1).toNat * 6)).off + 2, none⟩ = some (.int .i64 ((rd_T73 l1 x5_1).f2)) ∧ w'.cell? ⟨(ad329.add ((x5_1).toNat * 6)).block, (ad329.add ((x5_1).toNat * 6)).off + 3, none⟩ = some (.int .i64 ((rd_T73 l1 x5_1).f3)) ∧ w'.cell? ⟨(ad329.add ((x5_1).toNat * 6)).block, (ad329.add ((x5_1).toNat * 6)).off + 4, none⟩ = some (.int .i64 ((rd_T73 l1 x5_1).f4)) ∧ w'.cell? ⟨(ad329.add ((x5_1).toNat * 6)).block, (ad329.add ((x5_1).toNat * 6)).off + 5, none⟩ = some (.int .i64 ((rd_T73 l1 x5_1).f5))) (ds := []) #[false, false, false, false, false, false, false, false, false, false] kr_ rfl rfl ⟨((HB.out.cell (World.block_lt_of_cell? w _ hw328_0)).trans hw328_0), ((HB.out.cell (World.block_lt_of_cell? w _ hw328_1)).trans hw328_1), ((HB.out.cell (World.block_lt_of_cell? w _ hw328_2)).trans hw328_2), ((HB.out.cell (World.block_lt_of_cell? w _ hw328_3)).trans hw328_3), ((HB.out.cell (World.block_lt_of_cell? w _ hw328_4)).trans hw328_4), ((HB.out.cell (World.block_lt_of_cell? w _ hw328_5)).trans hw328_5), ((HB.out.cell (World.block_lt_of_cell? w _ hw329_0)).trans hw329_0), ((HB.out.cell (World.block_lt_of_cell? w _ hw329_1)).trans hw329_1), ((HB.out.cell (World.block_lt_of_cell? w _ hw329_2)).trans hw329_2), ((HB.out.cell (World.block_lt_of_cell? w _ hw329_3)).trans hw329_3), ((HB.out.cell (World.block_lt_of_cell? w _ hw329_4)).trans hw329_4), ((HB.out.cell (World.block_lt_of_cell? w _ hw329_5)).trans hw329_5)⟩ (fun hHeld => ?_); refine with_tabW laws_eqWarningS.tab6 laws_eqWarningS.bits6 (fun HT_ HW_ => ?_)
        generalize wr.drew = w9 at HB hx328_0 hx328_1 hx328_2 hx328_3 hx328_4 hx328_5 hx329_0 hx329_1 hx329_2 hx329_3 hx329_4 hx329_5 hHeld ⊢
        refine pure_ (i := 0) (N := some 17) #[true, false, false, false, false, false, false, false, false, false] rfl rfl (any_of HT_.out kr_) (fun _ _ _ h => h) (Or.inl ⟨by rfl, mc143⟩) mc122 ?_
        refine pure_ (i := 1) (N := some 18) #[true, true, false, false, false, false, false, false, false, false] rfl rfl (any_of HT_.out kr_) (fun _ _ _ h => h) (Or.inl ⟨by rfl, mc143⟩) mc122 ?_
        refine pure_ (i := 2) (N := some 19) #[true, true, true, false, false, false, false, false, false, false] rfl rfl (any_of HT_.out kr_) (fun _ _ _ h => h) (Or.inl ⟨by rfl, mc143⟩) mc122 ?_
        refine pure_ (i := 4) (N := some 21) #[true, true, true, false, true, false, false, false, false, false] rfl rfl (any_of HT_.out kr_) (fun _ _ _ h => h) (Or.inl ⟨by rfl, mc143⟩) mc122 ?_
        refine pure_ (i := 5) (N := some 22) #[true, true, true, false, true, true, false, false, false, false] rfl rfl (any_of HT_.out kr_) (fun _ _ _ h => h) (Or.inl ⟨by rfl, mc143⟩) mc122 ?_
        refine pure_ (i := 6) (N := some 23) #[true, true, true, false, true, true, true, false, false, false] rfl rfl (any_of HT_.out kr_) (fun _ _ _ h => h) (Or.inl ⟨by rfl, mc143⟩) mc122 ?_
        refine take_ (i := 3) (N := some 20) #[true, true, true, true, true, true, true, false, false, false] rfl rfl (take_ofW HT_.out HW_.out kr_) (fun _ _ _ h => h) (Or.inl ⟨by rfl, mc134⟩) hHeld mc122 ?_
        refine take_ (i := 7) (N := some 24) #[true, true, true, true, true, true, true, true, false, false] rfl rfl (take_ofW HT_.out HW_.out kr_) (fun _ _ _ h => h) (Or.inl ⟨by rfl, mc134⟩) hHeld mc122 ?_
        refine one_ (i := 8) (N := some 25) #[true, true, true, true, true, true, true, true, true, false] rfl rfl (one_of HT_.out kr_) (by decide) (fun K hK => ?_)
        refine goes_ Tryz.func53 kr_ rfl #[.agg #[.int .i64 ((rd_T73 l0 x5_1).f0), .int .i64 ((rd_T73 l0 x5_1).f1), .int .i64 ((rd_T73 l0 x5_1).f2), .int .i64 ((rd_T73 l0 x5_1).f3), .int .i64 ((rd_T73 l0 x5_1).f4), .int .i64 ((rd_T73 l0 x5_1).f5)], .agg #[.int .i64 ((rd_T73 l1 x5_1).f0), .int .i64 ((rd_T73 l1 x5_1).f1), .int .i64 ((rd_T73 l1 x5_1).f2), .int .i64 ((rd_T73 l1 x5_1).f3), .int .i64 ((rd_T73 l1 x5_1).f4), .int .i64 ((rd_T73 l1 x5_1).f5)]] (by rfl) rfl rfl mc86 ?_
        with_reducible refine (laws_eqWarning.calls ((rd_T73 l0 x5_1).f0) ((rd_T73 l0 x5_1).f1) ((rd_T73 l0 x5_1).f2) ((rd_T73 l0 x5_1).f3) ((rd_T73 l0 x5_1).f4) ((rd_T73 l0 x5_1).f5) ((rd_T73 l1 x5_1).f0) ((rd_T73 l1 x5_1).f1) ((rd_T73 l1 x5_1).f2) ((rd_T73 l1 x5_1).f3) ((rd_T73 l1 x5_1).f4) ((rd_T73 l1 x5_1).f5) true _ A7.out).mono ?_
        rintro e w10 ⟨rfl, hb⟩
        refine ⟨_, rfl, ?_⟩
        replace HB := A_ (below_step mc89 hb)
        (try clear hb)
        refine hK.out _ _ ⟨((HB.out.cell (World.block_lt_of_cell? w _ hw328_0)).trans hw328_0), ((HB.out.cell (World.block_lt_of_cell? w _ hw328_1)).trans hw328_1), ((HB.out.cell (World.block_lt_of_cell? w _ hw328_2)).trans hw328_2), ((HB.out.cell (World.block_lt_of_cell? w _ hw328_3)).trans hw328_3), ((HB.out.cell (World.block_lt_of_cell? w _ hw328_4)).trans hw328_4), ((HB.out.cell (World.block_lt_of_cell? w _ hw328_5)).trans hw328_5), ((HB.out.cell (World.block_lt_of_cell? w _ hw329_0)).trans hw329_0), ((HB.out.cell (World.block_lt_of_cell? w _ hw329_1)).trans hw329_1), ((HB.out.cell (World.block_lt_of_cell? w _ hw329_2)).trans hw329_2), ((HB.out.cell (World.block_lt_of_cell? w _ hw329_3)).trans hw329_3), ((HB.out.cell (World.block_lt_of_cell? w _ hw329_4)).trans hw329_4), ((HB.out.cell (World.block_lt_of_cell? w _ hw329_5)).trans hw329_5)⟩ (fun hHeld => ?_)
        clear hK K
        refine norm_ (by show Act.put _ (some 25) _ = _; simp only [Act.put, List.setIfInBounds_toArray, List.set_cons_zero, List.set_cons_succ, i64_w, i32_w]; rfl) ?_
        refine pure_ (i := 9) (N := some 26) #[true, true, true, true, true, true, true, true, true, true] rfl rfl (any_of HT_.out kr_) (fun _ _ _ h => h) (Or.inl ⟨by rfl, mc143⟩) mc122 ?_
        refine done_ (done_of HT_.out kr_) ?_
        try go_wp2
        go_roundg k1
        case measure => have := HK1.out; omega
        case rel => exact ⟨(wrap64 (x5_1 + 1)), mc141, H', ⟨mc144⟩, ⟨mc89⟩⟩
       ·
        replace c8 := Bool.eq_false_iff.mpr c8
        subst c8
        rw [if_neg (show ¬ (false = true) by decide)] at H
        obtain rfl := Option.some.inj H
        try go_wp2
        replace HB := A_ (below_drew1 HB.out)
        have p328 : 0 ≤ (x5_1 : Int) := of_decide_eq_true mc139
        have q328 : x5_1 < (l0.length : Int) := of_decide_eq_true mc139
        obtain ⟨ad328, e328, hx328_0, hx328_1, hx328_2, hx328_3, hx328_4, hx328_5⟩ := at_T73 HR0.out x5_1 p328 q328
        have hw328_5 := hx328_5
        have hw328_4 := hx328_4
        have hw328_3 := hx328_3
        have hw328_2 := hx328_2
        have hw328_1 := hx328_1
        have hw328_0 := hx328_0
        cases e328
        replace hx328_0 := (HB.out.cell (World.block_lt_of_cell? w _ hx328_0)).trans hx328_0
        replace hx328_1 := (HB.out.cell (World.block_lt_of_cell? w _ hx328_1)).trans hx328_1
        replace hx328_2 := (HB.out.cell (World.block_lt_of_cell? w _ hx328_2)).trans hx328_2
        replace hx328_3 := (HB.out.cell (World.block_lt_of_cell? w _ hx328_3)).trans hx328_3
        replace hx328_4 := (HB.out.cell (World.block_lt_of_cell? w _ hx328_4)).trans hx328_4
        replace hx328_5 := (HB.out.cell (World.block_lt_of_cell? w _ hx328_5)).trans hx328_5
        replace p328 := eq_true p328
        replace q328 := eq_true q328
        have p329 : 0 ≤ (x5_1 : Int) := of_decide_eq_true mc139
        have q329 : x5_1 < (l1.length : Int) := of_decide_eq_true mc139
        obtain ⟨ad329, e329, hx329_0, hx329_1, hx329_2, hx329_3, hx329_4, hx329_5⟩ := at_T73 HR1.out x5_1 p329 q329
        have hw329_5 := hx329_5
        have hw329_4 := hx329_4
        have hw329_3 := hx329_3
        have hw329_2 := hx329_2
        have hw329_1 := hx329_1
        have hw329_0 := hx329_0
        cases e329
        replace hx329_0 := (HB.out.cell (World.block_lt_of_cell? w _ hx329_0)).trans hx329_0
        replace hx329_1 := (HB.out.cell (World.block_lt_of_cell? w _ hx329_1)).trans hx329_1
        replace hx329_2 := (HB.out.cell (World.block_lt_of_cell? w _ hx329_2)).trans hx329_2
        replace hx329_3 := (HB.out.cell (World.block_lt_of_cell? w _ hx329_3)).trans hx329_3
        replace hx329_4 := (HB.out.cell (World.block_lt_of_cell? w _ hx329_4)).trans hx329_4
        replace hx329_5 := (HB.out.cell (World.block_lt_of_cell? w _ hx329_5)).trans hx329_5
        replace p329 := eq_true p329
        replace q329 := eq_true q329
        refine start_ (n := 10) (S := fun w' => w'.cell? (ad328.add ((x5_1).toNat * 6)) = some (.int .i64 ((rd_T73 l0 x5_1).f0)) ∧ w'.cell? ⟨(ad328.add ((x5_1).toNat * 6)).block, (ad328.add ((x5_1).toNat * 6)).off + 1, none⟩ = some (.int .i64 ((rd_T73 l0 x5_1).f1)) ∧ w'.cell? ⟨(ad328.add ((x5_1).toNat * 6)).block, (ad328.add ((x5_1).toNat * 6)).off + 2, none⟩ = some (.int .i64 ((rd_T73 l0 x5_1).f2)) ∧ w'.cell? ⟨(ad328.add ((x5_1).toNat * 6)).block, (ad328.add ((x5_1).toNat * 6)).off + 3, none⟩ = some (.int .i64 ((rd_T73 l0 x5_1).f3)) ∧ w'.cell? ⟨(ad328.add ((x5_1).toNat * 6)).block, (ad328.add ((x5_1).toNat * 6)).off + 4, none⟩ = some (.int .i64 ((rd_T73 l0 x5_1).f4)) ∧ w'.cell? ⟨(ad328.add ((x5_1).toNat * 6)).block, (ad328.add ((x5_1).toNat * 6)).off + 5, none⟩ = some (.int .i64 ((rd_T73 l0 x5_1).f5)) ∧ w'.cell? (ad329.add ((x5_1).toNat * 6)) = some (.int .i64 ((rd_T73 l1 x5_1).f0)) ∧ w'.cell? ⟨(ad329.add ((x5_1).toNat * 6)).block, (ad329.add ((x5_1).toNat * 6)).off + 1, none⟩ = some (.int .i64 ((rd_T73 l1 x5_1).f1)) ∧ w'.cell? ⟨(ad329.add ((x5_1).toNat * 6)).block, (ad329.add ((x5_1).toNat * 6)).off + 2, none⟩ = some (.int .i64 ((rd_T73 l1 x5_1).f2)) ∧ w'.cell? ⟨(ad329.add ((x5_1).toNat * 6)).block, (ad329.add ((x5_1).toNat * 6)).off + 3, none⟩ = some (.int .i64 ((rd_T73 l1 x5_1).f3)) ∧ w'.cell? ⟨(ad329.add ((x5_1).toNat * 6)).block, (ad329.add ((x5_1).toNat * 6)).off + 4, none⟩ = some (.int .i64 ((rd_T73 l1 x5_1).f4)) ∧ w'.cell? ⟨(ad329.add ((x5_1).toNat * 6)).block, (ad329.add ((x5_1).toNat * 6)).off + 5, none⟩ = some (.int .i64 ((rd_T73 l1 x5_1).f5))) (ds := []) #[false, false, false, false, false, false, false, false, false, false] kr_ rfl rfl ⟨((HB.out.cell (World.block_lt_of_cell? w _ hw328_0)).trans hw328_0), ((HB.out.cell (World.block_lt_of_cell? w _ hw328_1)).trans hw328_1), ((HB.out.cell (World.block_lt_of_cell? w _ hw328_2)).trans hw328_2), ((HB.out.cell (World.block_lt_of_cell? w _ hw328_3)).trans hw328_3), ((HB.out.cell (World.block_lt_of_cell? w _ hw328_4)).trans hw328_4), ((HB.out.cell (World.block_lt_of_cell? w _ hw328_5)).trans hw328_5), ((HB.out.cell (World.block_lt_of_cell? w _ hw329_0)).trans hw329_0), ((HB.out.cell (World.block_lt_of_cell? w _ hw329_1)).trans hw329_1), ((HB.out.cell (World.block_lt_of_cell? w _ hw329_2)).trans hw329_2), ((HB.out.cell (World.block_lt_of_cell? w _ hw329_3)).trans hw329_3), ((HB.out.cell (World.block_lt_of_cell? w _ hw329_4)).trans hw329_4), ((HB.out.cell (World.block_lt_of_cell? w _ hw329_5)).trans hw329_5)⟩ (fun hHeld => ?_); refine with_tabW laws_eqWarningS.tab6 laws_eqWarningS.bits6 (fun HT_ HW_ => ?_)
        generalize wr.drew = w11 at HB hx328_0 hx328_1 hx328_2 hx328_3 hx328_4 hx328_5 hx329_0 hx329_1 hx329_2 hx329_3 hx329_4 hx329_5 hHeld ⊢
        refine pure_ (i := 0) (N := some 17) #[true, false, false, false, false, false, false, false, false, false] rfl rfl (any_of HT_.out kr_) (fun _ _ _ h => h) (Or.inl ⟨by rfl, mc143⟩) mc122 ?_
        refine pure_ (i := 1) (N := some 18) #[true, true, false, false, false, false, false, false, false, false] rfl rfl (any_of HT_.out kr_) (fun _ _ _ h => h) (Or.inl ⟨by rfl, mc143⟩) mc122 ?_
        refine pure_ (i := 2) (N := some 19) #[true, true, true, false, false, false, false, false, false, false] rfl rfl (any_of HT_.out kr_) (fun _ _ _ h => h) (Or.inl ⟨by rfl, mc143⟩) mc122 ?_
        refine pure_ (i := 4) (N := some 21) #[true, true, true, false, true, false, false, false, false, false] rfl rfl (any_of HT_.out kr_) (fun _ _ _ h => h) (Or.inl ⟨by rfl, mc143⟩) mc122 ?_
        refine pure_ (i := 5) (N := some 22) #[true, true, true, false, true, true, false, false, false, false] rfl rfl (any_of HT_.out kr_) (fun _ _ _ h => h) (Or.inl ⟨by rfl, mc143⟩) mc122 ?_
        refine pure_ (i := 6) (N := some 23) #[true, true, true, false, true, true, true, false, false, false] rfl rfl (any_of HT_.out kr_) (fun _ _ _ h => h) (Or.inl ⟨by rfl, mc143⟩) mc122 ?_
        refine take_ (i := 3) (N := some 20) #[true, true, true, true, true, true, true, false, false, false] rfl rfl (take_ofW HT_.out HW_.out kr_) (fun _ _ _ h => h) (Or.inl ⟨by rfl, mc134⟩) hHeld mc122 ?_
        refine take_ (i := 7) (N := some 24) #[true, true, true, true, true, true, true, true, false, false] rfl rfl (take_ofW HT_.out HW_.out kr_) (fun _ _ _ h => h) (Or.inl ⟨by rfl, mc134⟩) hHeld mc122 ?_
        refine one_ (i := 8) (N := some 25) #[true, true, true, true, true, true, true, true, true, false] rfl rfl (one_of HT_.out kr_) (by decide) (fun K hK => ?_)
        refine goes_ Tryz.func53 kr_ rfl #[.agg #[.int .i64 ((rd_T73 l0 x5_1).f0), .int .i64 ((rd_T73 l0 x5_1).f1), .int .i64 ((rd_T73 l0 x5_1).f2), .int .i64 ((rd_T73 l0 x5_1).f3), .int .i64 ((rd_T73 l0 x5_1).f4), .int .i64 ((rd_T73 l0 x5_1).f5)], .agg #[.int .i64 ((rd_T73 l1 x5_1).f0), .int .i64 ((rd_T73 l1 x5_1).f1), .int .i64 ((rd_T73 l1 x5_1).f2), .int .i64 ((rd_T73 l1 x5_1).f3), .int .i64 ((rd_T73 l1 x5_1).f4), .int .i64 ((rd_T73 l1 x5_1).f5)]] (by rfl) rfl rfl mc86 ?_
        with_reducible refine (laws_eqWarning.calls ((rd_T73 l0 x5_1).f0) ((rd_T73 l0 x5_1).f1) ((rd_T73 l0 x5_1).f2) ((rd_T73 l0 x5_1).f3) ((rd_T73 l0 x5_1).f4) ((rd_T73 l0 x5_1).f5) ((rd_T73 l1 x5_1).f0) ((rd_T73 l1 x5_1).f1) ((rd_T73 l1 x5_1).f2) ((rd_T73 l1 x5_1).f3) ((rd_T73 l1 x5_1).f4) ((rd_T73 l1 x5_1).f5) false _ A7.out).mono ?_
        rintro e w12 ⟨rfl, hb⟩
        refine ⟨_, rfl, ?_⟩
        replace HB := A_ (below_step mc89 hb)
        (try clear hb)
        refine hK.out _ _ ⟨((HB.out.cell (World.block_lt_of_cell? w _ hw328_0)).trans hw328_0), ((HB.out.cell (World.block_lt_of_cell? w _ hw328_1)).trans hw328_1), ((HB.out.cell (World.block_lt_of_cell? w _ hw328_2)).trans hw328_2), ((HB.out.cell (World.block_lt_of_cell? w _ hw328_3)).trans hw328_3), ((HB.out.cell (World.block_lt_of_cell? w _ hw328_4)).trans hw328_4), ((HB.out.cell (World.block_lt_of_cell? w _ hw328_5)).trans hw328_5), ((HB.out.cell (World.block_lt_of_cell? w _ hw329_0)).trans hw329_0), ((HB.out.cell (World.block_lt_of_cell? w _ hw329_1)).trans hw329_1), ((HB.out.cell (World.block_lt_of_cell? w _ hw329_2)).trans hw329_2), ((HB.out.cell (World.block_lt_of_cell? w _ hw329_3)).trans hw329_3), ((HB.out.cell (World.block_lt_of_cell? w _ hw329_4)).trans hw329_4), ((HB.out.cell (World.block_lt_of_cell? w _ hw329_5)).trans hw329_5)⟩ (fun hHeld => ?_)
        clear hK K
        refine norm_ (by show Act.put _ (some 25) _ = _; simp only [Act.put, List.setIfInBounds_toArray, List.set_cons_zero, List.set_cons_succ, i64_w, i32_w]; rfl) ?_
        refine pure_ (i := 9) (N := some 26) #[true, true, true, true, true, true, true, true, true, true] rfl rfl (any_of HT_.out kr_) (fun _ _ _ h => h) (Or.inl ⟨by rfl, mc143⟩) mc122 ?_
        refine done_ (done_of HT_.out kr_) ?_
        try go_wp2
        go_ret
        exact ⟨mc133, mc89⟩
      ·
       rw [if_neg c6] at H
       exact absurd H (by simp)
     ·
      rw [if_neg c5] at H
      exact absurd H (by simp)
    ·
     rw [if_neg c4] at H
     have c4b0 : decide (x5_1 < (l0.length : Int)) = false := decide_eq_false c4
     clear c4
     obtain rfl := Option.some.inj H
     go_wp2
     go_ret
     exact ⟨mc133, mc89⟩
 ·
  rw [if_neg c3] at H
  have c3b0 : ((l0.length : Int) == (l1.length : Int)) = false := beq_eq_false_iff_ne.mpr c3
  have c3b1 : ((l0.length : Int) != (l1.length : Int)) = true := bne_iff_ne.mpr c3
  have c3b2 : (l0.length == l1.length) = false := by first | simpa using c3 | (simp at c3 ⊢; omega)
  obtain rfl := Option.some.inj H
  go_enter Tryz.func21, Tryz.ntmps21
  go_wp2
  go_ret
  exact ⟨mc133, mc89⟩

/-! ### laws_eqLog: function 49 -/
def laws_eqLog.f (a0_0 : ByteArray) (a0_1 : ByteArray) (a0_2 : Int) (a1_0 : ByteArray) (a1_1 : ByteArray) (a1_2 : Int) : Option (Bool) := if a0_0.toList = a1_0.toList then (if a0_1.toList = a1_1.toList then (if a0_2 = a1_2 then (some true) else (some false)) else (some false)) else (some false)
set_option maxHeartbeats 8000000 in
set_option maxRecDepth 100000 in
theorem laws_eqLog.calls (a0_0 : ByteArray) (a0_1 : ByteArray) (a0_2 : Int) (a1_0 : ByteArray) (a1_1 : ByteArray) (a1_2 : Int) (r : Bool) (w : World) (h : laws_eqLog.f a0_0 a0_1 a0_2 a1_0 a1_1 a1_2 = some r) :
  Calls Tryz.prog 49 #[.agg #[.string a0_0, .string a0_1, .int .i64 a0_2], .agg #[.string a1_0, .string a1_1, .int .i64 a1_2]] w fun e w' => e = .returned (.bool r) ∧ Below w.heap.size w w' := by
 have hu31 := Tryz.underlying31
 have HB := A_ (Below.refl w.heap.size w)
 have H : (if a0_0.toList = a1_0.toList then (if a0_1.toList = a1_1.toList then (if a0_2 = a1_2 then (some true) else (some false)) else (some false)) else (some false)) = some r := h
 clear h
 by_cases c3 : a0_0.toList = a1_0.toList
 ·
  rw [if_pos c3] at H
  have c3b0 : (a0_0.toList == a1_0.toList) = true := beq_iff_eq.mpr c3
  have c3b1 : (a0_0.toList != a1_0.toList) = false := bne_eq_false_iff_eq.mpr c3
  clear c3
  by_cases c4 : a0_1.toList = a1_1.toList
  ·
   rw [if_pos c4] at H
   have c4b0 : (a0_1.toList == a1_1.toList) = true := beq_iff_eq.mpr c4
   have c4b1 : (a0_1.toList != a1_1.toList) = false := bne_eq_false_iff_eq.mpr c4
   clear c4
   by_cases c5 : a0_2 = a1_2
   ·
    rw [if_pos c5] at H
    have c5b0 : (a0_2 == a1_2) = true := beq_iff_eq.mpr c5
    have c5b1 : (a0_2 != a1_2) = false := bne_eq_false_iff_eq.mpr c5
    clear c5
    obtain rfl := Option.some.inj H
    go_enter Tryz.func49, Tryz.ntmps49
    go_wp2_with (first | ((with_reducible refine gd_ 2 rfl ?_); refine box_event rfl (N := 2) rfl (cs := #[.string a0_0, .string a0_1, .int .i64 a0_2]) (t := 31) mc142 ?_; intro gb331 hg w6 hbox hb; have BK331 := A_ (hbox); have GW331 := A_ ((mc45 : w.heap.size ≤ gb331)); have GE331 := A_ ((mc45 : w.heap.size ≤ gb331)); replace HB := A_ (below_step mc89 hb); clear hb hbox hg) | ((with_reducible refine gd_ 3 rfl ?_); refine box_event rfl (N := 3) rfl (cs := #[.string a1_0, .string a1_1, .int .i64 a1_2]) (t := 31) mc142 ?_; intro gb332 hg w7 hbox hb; have BK332 := A_ (hbox); have GW332 := A_ ((mc27 : w.heap.size ≤ gb332)); have GE332 := A_ ((mc27 : w.heap.size ≤ gb332)); replace HB := A_ (below_step mc68 hb); have NB331_332 := A_ ((mc81 : gb331 ≠ gb332)); have NB332_331 := A_ ((mc82 : gb332 ≠ gb331)); replace BK331 := A_ (blk_below mc115 hb); clear hb hbox hg; have hnb8 := NB331_332.out; have hnc8 := NB332_331.out; have hcz9_0 : w7.cell? ⟨gb331, 0, none⟩ = some (.string a0_0) := bc_ BK331 0 rfl; have hcz9_1 : w7.cell? ⟨gb331, 1, none⟩ = some (.string a0_1) := bc_ BK331 1 rfl; have hcz9_2 : w7.cell? ⟨gb331, 2, none⟩ = some (.int .i64 a0_2) := bc_ BK331 2 rfl; have hfz9_0 := blk_frozen BK331.out 0; have hfz9_1 := blk_frozen BK331.out 1; have hfz9_2 := blk_frozen BK331.out 2; have hcz10_0 : w7.cell? ⟨gb332, 0, none⟩ = some (.string a1_0) := bc_ BK332 0 rfl; have hcz10_1 : w7.cell? ⟨gb332, 1, none⟩ = some (.string a1_1) := bc_ BK332 1 rfl; have hcz10_2 : w7.cell? ⟨gb332, 2, none⟩ = some (.int .i64 a1_2) := bc_ BK332 2 rfl; have hfz10_0 := blk_frozen BK332.out 0; have hfz10_1 := blk_frozen BK332.out 1; have hfz10_2 := blk_frozen BK332.out 2))
    go_ret
    exact ⟨mc133, mc40⟩
   ·
    rw [if_neg c5] at H
    have c5b0 : (a0_2 == a1_2) = false := beq_eq_false_iff_ne.mpr c5
    have c5b1 : (a0_2 != a1_2) = true := bne_iff_ne.mpr c5
    obtain rfl := Option.some.inj H
    go_enter Tryz.func49, Tryz.ntmps49
    go_wp2_with (first | ((with_reducible refine gd_ 2 rfl ?_); refine box_event rfl (N := 2) rfl (cs := #[.string a0_0, .string a0_1, .int .i64 a0_2]) (t := 31) mc142 ?_; intro gb331 hg w11 hbox hb; have BK331 := A_ (hbox); have GW331 := A_ ((mc45 : w.heap.size ≤ gb331)); have GE331 := A_ ((mc45 : w.heap.size ≤ gb331)); replace HB := A_ (below_step mc89 hb); clear hb hbox hg) | ((with_reducible refine gd_ 3 rfl ?_); refine box_event rfl (N := 3) rfl (cs := #[.string a1_0, .string a1_1, .int .i64 a1_2]) (t := 31) mc142 ?_; intro gb332 hg w12 hbox hb; have BK332 := A_ (hbox); have GW332 := A_ ((mc27 : w.heap.size ≤ gb332)); have GE332 := A_ ((mc27 : w.heap.size ≤ gb332)); replace HB := A_ (below_step mc68 hb); have NB331_332 := A_ ((mc81 : gb331 ≠ gb332)); have NB332_331 := A_ ((mc82 : gb332 ≠ gb331)); replace BK331 := A_ (blk_below mc115 hb); clear hb hbox hg; have hnb13 := NB331_332.out; have hnc13 := NB332_331.out; have hcz14_0 : w12.cell? ⟨gb331, 0, none⟩ = some (.string a0_0) := bc_ BK331 0 rfl; have hcz14_1 : w12.cell? ⟨gb331, 1, none⟩ = some (.string a0_1) := bc_ BK331 1 rfl; have hcz14_2 : w12.cell? ⟨gb331, 2, none⟩ = some (.int .i64 a0_2) := bc_ BK331 2 rfl; have hfz14_0 := blk_frozen BK331.out 0; have hfz14_1 := blk_frozen BK331.out 1; have hfz14_2 := blk_frozen BK331.out 2; have hcz15_0 : w12.cell? ⟨gb332, 0, none⟩ = some (.string a1_0) := bc_ BK332 0 rfl; have hcz15_1 : w12.cell? ⟨gb332, 1, none⟩ = some (.string a1_1) := bc_ BK332 1 rfl; have hcz15_2 : w12.cell? ⟨gb332, 2, none⟩ = some (.int .i64 a1_2) := bc_ BK332 2 rfl; have hfz15_0 := blk_frozen BK332.out 0; have hfz15_1 := blk_frozen BK332.out 1; have hfz15_2 := blk_frozen BK332.out 2))
    go_ret
    exact ⟨mc133, mc40⟩
  ·
   rw [if_neg c4] at H
   have c4b0 : (a0_1.toList == a1_1.toList) = false := beq_eq_false_iff_ne.mpr c4
   have c4b1 : (a0_1.toList != a1_1.toList) = true := bne_iff_ne.mpr c4
   obtain rfl := Option.some.inj H
   go_enter Tryz.func49, Tryz.ntmps49
   go_wp2_with (first | ((with_reducible refine gd_ 2 rfl ?_); refine box_event rfl (N := 2) rfl (cs := #[.string a0_0, .string a0_1, .int .i64 a0_2]) (t := 31) mc142 ?_; intro gb331 hg w16 hbox hb; have BK331 := A_ (hbox); have GW331 := A_ ((mc45 : w.heap.size ≤ gb331)); have GE331 := A_ ((mc45 : w.heap.size ≤ gb331)); replace HB := A_ (below_step mc89 hb); clear hb hbox hg) | ((with_reducible refine gd_ 3 rfl ?_); refine box_event rfl (N := 3) rfl (cs := #[.string a1_0, .string a1_1, .int .i64 a1_2]) (t := 31) mc142 ?_; intro gb332 hg w17 hbox hb; have BK332 := A_ (hbox); have GW332 := A_ ((mc27 : w.heap.size ≤ gb332)); have GE332 := A_ ((mc27 : w.heap.size ≤ gb332)); replace HB := A_ (below_step mc68 hb); have NB331_332 := A_ ((mc81 : gb331 ≠ gb332)); have NB332_331 := A_ ((mc82 : gb332 ≠ gb331)); replace BK331 := A_ (blk_below mc115 hb); clear hb hbox hg; have hnb18 := NB331_332.out; have hnc18 := NB332_331.out; have hcz19_0 : w17.cell? ⟨gb331, 0, none⟩ = some (.string a0_0) := bc_ BK331 0 rfl; have hcz19_1 : w17.cell? ⟨gb331, 1, none⟩ = some (.string a0_1) := bc_ BK331 1 rfl; have hcz19_2 : w17.cell? ⟨gb331, 2, none⟩ = some (.int .i64 a0_2) := bc_ BK331 2 rfl; have hfz19_0 := blk_frozen BK331.out 0; have hfz19_1 := blk_frozen BK331.out 1; have hfz19_2 := blk_frozen BK331.out 2; have hcz20_0 : w17.cell? ⟨gb332, 0, none⟩ = some (.string a1_0) := bc_ BK332 0 rfl; have hcz20_1 : w17.cell? ⟨gb332, 1, none⟩ = some (.string a1_1) := bc_ BK332 1 rfl; have hcz20_2 : w17.cell? ⟨gb332, 2, none⟩ = some (.int .i64 a1_2) := bc_ BK332 2 rfl; have hfz20_0 := blk_frozen BK332.out 0; have hfz20_1 := blk_frozen BK332.out 1; have hfz20_2 := blk_frozen BK332.out 2))
   go_ret
   exact ⟨mc133, mc40⟩
 ·
  rw [if_neg c3] at H
  have c3b0 : (a0_0.toList == a1_0.toList) = false := beq_eq_false_iff_ne.mpr c3
  have c3b1 : (a0_0.toList != a1_0.toList) = true := bne_iff_ne.mpr c3
  obtain rfl := Option.some.inj H
  go_enter Tryz.func49, Tryz.ntmps49
  go_wp2_with (first | ((with_reducible refine gd_ 2 rfl ?_); refine box_event rfl (N := 2) rfl (cs := #[.string a0_0, .string a0_1, .int .i64 a0_2]) (t := 31) mc142 ?_; intro gb331 hg w21 hbox hb; have BK331 := A_ (hbox); have GW331 := A_ ((mc45 : w.heap.size ≤ gb331)); have GE331 := A_ ((mc45 : w.heap.size ≤ gb331)); replace HB := A_ (below_step mc89 hb); clear hb hbox hg) | ((with_reducible refine gd_ 3 rfl ?_); refine box_event rfl (N := 3) rfl (cs := #[.string a1_0, .string a1_1, .int .i64 a1_2]) (t := 31) mc142 ?_; intro gb332 hg w22 hbox hb; have BK332 := A_ (hbox); have GW332 := A_ ((mc27 : w.heap.size ≤ gb332)); have GE332 := A_ ((mc27 : w.heap.size ≤ gb332)); replace HB := A_ (below_step mc68 hb); have NB331_332 := A_ ((mc81 : gb331 ≠ gb332)); have NB332_331 := A_ ((mc82 : gb332 ≠ gb331)); replace BK331 := A_ (blk_below mc115 hb); clear hb hbox hg; have hnb23 := NB331_332.out; have hnc23 := NB332_331.out; have hcz24_0 : w22.cell? ⟨gb331, 0, none⟩ = some (.string a0_0) := bc_ BK331 0 rfl; have hcz24_1 : w22.cell? ⟨gb331, 1, none⟩ = some (.string a0_1) := bc_ BK331 1 rfl; have hcz24_2 : w22.cell? ⟨gb331, 2, none⟩ = some (.int .i64 a0_2) := bc_ BK331 2 rfl; have hfz24_0 := blk_frozen BK331.out 0; have hfz24_1 := blk_frozen BK331.out 1; have hfz24_2 := blk_frozen BK331.out 2; have hcz25_0 : w22.cell? ⟨gb332, 0, none⟩ = some (.string a1_0) := bc_ BK332 0 rfl; have hcz25_1 : w22.cell? ⟨gb332, 1, none⟩ = some (.string a1_1) := bc_ BK332 1 rfl; have hcz25_2 : w22.cell? ⟨gb332, 2, none⟩ = some (.int .i64 a1_2) := bc_ BK332 2 rfl; have hfz25_0 := blk_frozen BK332.out 0; have hfz25_1 := blk_frozen BK332.out 1; have hfz25_2 := blk_frozen BK332.out 2))
  go_ret
  exact ⟨mc133, mc40⟩

/-! ### laws_eqConsole: function 14 -/
def laws_eqConsole.f (k : Nat) (l0_0 : List (S73)) (a0_1 : ByteArray) (a0_2 : ByteArray) (a0_3 : Int) (l1_0 : List (S73)) (a1_1 : ByteArray) (a1_2 : ByteArray) (a1_3 : Int) : Option (Bool) := (laws_eqWarningS.f k l0_0 l1_0).bind fun t335 => (if t335 = true then ((laws_eqLog.f a0_1 a0_2 a0_3 a1_1 a1_2 a1_3).bind fun t336 => (if t336 = true then (some true) else (some false))) else (some false))
set_option maxHeartbeats 8000000 in
set_option maxRecDepth 100000 in
theorem laws_eqConsole.calls (k : Nat) (A0_0 : Option Addr) (c0_0 : Nat) (l0_0 : List (S73)) (a0_1 : ByteArray) (a0_2 : ByteArray) (a0_3 : Int) (A1_0 : Option Addr) (c1_0 : Nat) (l1_0 : List (S73)) (a1_1 : ByteArray) (a1_2 : ByteArray) (a1_3 : Int) (r : Bool) (w : World) (hr0_0 : Kd.C k73 w A0_0 l0_0.length l0_0) (hc0_0 : l0_0.length ≤ c0_0) (hr1_0 : Kd.C k73 w A1_0 l1_0.length l1_0) (hc1_0 : l1_0.length ≤ c1_0) (h : laws_eqConsole.f k l0_0 a0_1 a0_2 a0_3 l1_0 a1_1 a1_2 a1_3 = some r) :
  Calls Tryz.prog 14 #[.agg #[.slice A0_0 l0_0.length c0_0, .string a0_1, .string a0_2, .int .i64 a0_3], .agg #[.slice A1_0 l1_0.length c1_0, .string a1_1, .string a1_2, .int .i64 a1_3]] w fun e w' => e = .returned (.bool r) ∧ Below w.heap.size w w' := by
 have hu33 := Tryz.underlying33
 have hu31 := Tryz.underlying31
 have HR0_0 := A_ hr0_0
 have HC0_0 := A_ hc0_0
 clear hr0_0 hc0_0
 have HR1_0 := A_ hr1_0
 have HC1_0 := A_ hc1_0
 clear hr1_0 hc1_0
 have HB := A_ (Below.refl w.heap.size w)
 have H : ((laws_eqWarningS.f k l0_0 l1_0).bind fun t335 => (if t335 = true then ((laws_eqLog.f a0_1 a0_2 a0_3 a1_1 a1_2 a1_3).bind fun t336 => (if t336 = true then (some true) else (some false))) else (some false))) = some r := h
 clear h
 obtain ⟨t335, A30, H⟩ := oB_ H
 have A3 := A_ A30
 clear A30
 by_cases c4 : t335 = true
 ·
  subst c4
  rw [if_pos rfl] at H
  obtain ⟨t336, A50, H⟩ := oB_ H
  have A5 := A_ A50
  clear A50
  by_cases c6 : t336 = true
  ·
   subst c6
   rw [if_pos rfl] at H
   obtain rfl := Option.some.inj H
   go_enter Tryz.func14, Tryz.ntmps14
   go_wp2_with (first | ((with_reducible refine gd_ 2 rfl ?_); refine box_event rfl (N := 2) rfl (cs := #[.slice A0_0 l0_0.length c0_0, .string a0_1, .string a0_2, .int .i64 a0_3]) (t := 33) mc142 ?_; intro gb333 hg w7 hbox hb; have BK333 := A_ (hbox); have GW333 := A_ ((mc45 : w.heap.size ≤ gb333)); have GE333 := A_ ((mc45 : w.heap.size ≤ gb333)); replace HB := A_ (below_step mc89 hb); clear hb hbox hg) | ((with_reducible refine gd_ 3 rfl ?_); refine box_event rfl (N := 3) rfl (cs := #[.slice A1_0 l1_0.length c1_0, .string a1_1, .string a1_2, .int .i64 a1_3]) (t := 33) mc142 ?_; intro gb334 hg w8 hbox hb; have BK334 := A_ (hbox); have GW334 := A_ ((mc28 : w.heap.size ≤ gb334)); have GE334 := A_ ((mc28 : w.heap.size ≤ gb334)); replace HB := A_ (below_step mc69 hb); have NB333_334 := A_ ((mc83 : gb333 ≠ gb334)); have NB334_333 := A_ ((mc84 : gb334 ≠ gb333)); replace BK333 := A_ (blk_below mc116 hb); clear hb hbox hg; have hnb9 := NB333_334.out; have hnc9 := NB334_333.out; have hcz10_0 : w8.cell? ⟨gb333, 0, none⟩ = some (.slice A0_0 l0_0.length c0_0) := bc_ BK333 0 rfl; have hcz10_1 : w8.cell? ⟨gb333, 1, none⟩ = some (.string a0_1) := bc_ BK333 1 rfl; have hcz10_2 : w8.cell? ⟨gb333, 2, none⟩ = some (.string a0_2) := bc_ BK333 2 rfl; have hcz10_3 : w8.cell? ⟨gb333, 3, none⟩ = some (.int .i64 a0_3) := bc_ BK333 3 rfl; have hfz10_0 := blk_frozen BK333.out 0; have hfz10_1 := blk_frozen BK333.out 1; have hfz10_2 := blk_frozen BK333.out 2; have hfz10_3 := blk_frozen BK333.out 3; have hcz11_0 : w8.cell? ⟨gb334, 0, none⟩ = some (.slice A1_0 l1_0.length c1_0) := bc_ BK334 0 rfl; have hcz11_1 : w8.cell? ⟨gb334, 1, none⟩ = some (.string a1_1) := bc_ BK334 1 rfl; have hcz11_2 : w8.cell? ⟨gb334, 2, none⟩ = some (.string a1_2) := bc_ BK334 2 rfl; have hcz11_3 : w8.cell? ⟨gb334, 3, none⟩ = some (.int .i64 a1_3) := bc_ BK334 3 rfl; have hfz11_0 := blk_frozen BK334.out 0; have hfz11_1 := blk_frozen BK334.out 1; have hfz11_2 := blk_frozen BK334.out 2; have hfz11_3 := blk_frozen BK334.out 3) | ((with_reducible refine gc_ 21 rfl ?_); refine goesL_ (some 9) rfl rfl Tryz.func21 kr_ rfl #[.slice A0_0 l0_0.length c0_0, .slice A1_0 l1_0.length c1_0] rfl mc86 ?_; (with_reducible refine (laws_eqWarningS.calls k _ _ l0_0 _ _ l1_0 true _ ?side1 ?side2 ?side3 ?side4 A3.out).mono ?_); (case side1 => exact mc42); (case side2 => exact HC0_0.out); (case side3 => exact mc43); (case side4 => exact HC1_0.out); rintro e w12 ⟨rfl, hb⟩; refine ⟨_, rfl, ?_⟩; replace BK333 := A_ (blk_below mc116 hb); replace BK334 := A_ (blk_below mc117 hb); replace HB := A_ (below_step mc35 hb); (try clear hb); have hcz13_0 : w12.cell? ⟨gb333, 0, none⟩ = some (.slice A0_0 l0_0.length c0_0) := bc_ BK333 0 rfl; have hcz13_1 : w12.cell? ⟨gb333, 1, none⟩ = some (.string a0_1) := bc_ BK333 1 rfl; have hcz13_2 : w12.cell? ⟨gb333, 2, none⟩ = some (.string a0_2) := bc_ BK333 2 rfl; have hcz13_3 : w12.cell? ⟨gb333, 3, none⟩ = some (.int .i64 a0_3) := bc_ BK333 3 rfl; have hfz13_0 := blk_frozen BK333.out 0; have hfz13_1 := blk_frozen BK333.out 1; have hfz13_2 := blk_frozen BK333.out 2; have hfz13_3 := blk_frozen BK333.out 3; have hcz14_0 : w12.cell? ⟨gb334, 0, none⟩ = some (.slice A1_0 l1_0.length c1_0) := bc_ BK334 0 rfl; have hcz14_1 : w12.cell? ⟨gb334, 1, none⟩ = some (.string a1_1) := bc_ BK334 1 rfl; have hcz14_2 : w12.cell? ⟨gb334, 2, none⟩ = some (.string a1_2) := bc_ BK334 2 rfl; have hcz14_3 : w12.cell? ⟨gb334, 3, none⟩ = some (.int .i64 a1_3) := bc_ BK334 3 rfl; have hfz14_0 := blk_frozen BK334.out 0; have hfz14_1 := blk_frozen BK334.out 1; have hfz14_2 := blk_frozen BK334.out 2; have hfz14_3 := blk_frozen BK334.out 3) | ((with_reducible refine gc_ 49 rfl ?_); refine goesL_ (some 15) rfl rfl Tryz.func49 kr_ rfl #[.agg #[.string a0_1, .string a0_2, .int .i64 a0_3], .agg #[.string a1_1, .string a1_2, .int .i64 a1_3]] rfl mc86 ?_; (with_reducible refine (laws_eqLog.calls a0_1 a0_2 a0_3 a1_1 a1_2 a1_3 true _ A5.out).mono ?_); rintro e w15 ⟨rfl, hb⟩; refine ⟨_, rfl, ?_⟩; replace BK333 := A_ (blk_below mc116 hb); replace BK334 := A_ (blk_below mc117 hb); replace HB := A_ (below_step mc35 hb); (try clear hb)))
   go_ret
   exact ⟨mc133, mc35⟩
  ·
   replace c6 := Bool.eq_false_iff.mpr c6
   subst c6
   rw [if_neg (show ¬ (false = true) by decide)] at H
   obtain rfl := Option.some.inj H
   go_enter Tryz.func14, Tryz.ntmps14
   go_wp2_with (first | ((with_reducible refine gd_ 2 rfl ?_); refine box_event rfl (N := 2) rfl (cs := #[.slice A0_0 l0_0.length c0_0, .string a0_1, .string a0_2, .int .i64 a0_3]) (t := 33) mc142 ?_; intro gb333 hg w16 hbox hb; have BK333 := A_ (hbox); have GW333 := A_ ((mc45 : w.heap.size ≤ gb333)); have GE333 := A_ ((mc45 : w.heap.size ≤ gb333)); replace HB := A_ (below_step mc89 hb); clear hb hbox hg) | ((with_reducible refine gd_ 3 rfl ?_); refine box_event rfl (N := 3) rfl (cs := #[.slice A1_0 l1_0.length c1_0, .string a1_1, .string a1_2, .int .i64 a1_3]) (t := 33) mc142 ?_; intro gb334 hg w17 hbox hb; have BK334 := A_ (hbox); have GW334 := A_ ((mc28 : w.heap.size ≤ gb334)); have GE334 := A_ ((mc28 : w.heap.size ≤ gb334)); replace HB := A_ (below_step mc69 hb); have NB333_334 := A_ ((mc83 : gb333 ≠ gb334)); have NB334_333 := A_ ((mc84 : gb334 ≠ gb333)); replace BK333 := A_ (blk_below mc116 hb); clear hb hbox hg; have hnb18 := NB333_334.out; have hnc18 := NB334_333.out; have hcz19_0 : w17.cell? ⟨gb333, 0, none⟩ = some (.slice A0_0 l0_0.length c0_0) := bc_ BK333 0 rfl; have hcz19_1 : w17.cell? ⟨gb333, 1, none⟩ = some (.string a0_1) := bc_ BK333 1 rfl; have hcz19_2 : w17.cell? ⟨gb333, 2, none⟩ = some (.string a0_2) := bc_ BK333 2 rfl; have hcz19_3 : w17.cell? ⟨gb333, 3, none⟩ = some (.int .i64 a0_3) := bc_ BK333 3 rfl; have hfz19_0 := blk_frozen BK333.out 0; have hfz19_1 := blk_frozen BK333.out 1; have hfz19_2 := blk_frozen BK333.out 2; have hfz19_3 := blk_frozen BK333.out 3; have hcz20_0 : w17.cell? ⟨gb334, 0, none⟩ = some (.slice A1_0 l1_0.length c1_0) := bc_ BK334 0 rfl; have hcz20_1 : w17.cell? ⟨gb334, 1, none⟩ = some (.string a1_1) := bc_ BK334 1 rfl; have hcz20_2 : w17.cell? ⟨gb334, 2, none⟩ = some (.string a1_2) := bc_ BK334 2 rfl; have hcz20_3 : w17.cell? ⟨gb334, 3, none⟩ = some (.int .i64 a1_3) := bc_ BK334 3 rfl; have hfz20_0 := blk_frozen BK334.out 0; have hfz20_1 := blk_frozen BK334.out 1; have hfz20_2 := blk_frozen BK334.out 2; have hfz20_3 := blk_frozen BK334.out 3) | ((with_reducible refine gc_ 21 rfl ?_); refine goesL_ (some 9) rfl rfl Tryz.func21 kr_ rfl #[.slice A0_0 l0_0.length c0_0, .slice A1_0 l1_0.length c1_0] rfl mc86 ?_; (with_reducible refine (laws_eqWarningS.calls k _ _ l0_0 _ _ l1_0 true _ ?side1 ?side2 ?side3 ?side4 A3.out).mono ?_); (case side1 => exact mc42); (case side2 => exact HC0_0.out); (case side3 => exact mc43); (case side4 => exact HC1_0.out); rintro e w21 ⟨rfl, hb⟩; refine ⟨_, rfl, ?_⟩; replace BK333 := A_ (blk_below mc116 hb); replace BK334 := A_ (blk_below mc117 hb); replace HB := A_ (below_step mc35 hb); (try clear hb); have hcz22_0 : w21.cell? ⟨gb333, 0, none⟩ = some (.slice A0_0 l0_0.length c0_0) := bc_ BK333 0 rfl; have hcz22_1 : w21.cell? ⟨gb333, 1, none⟩ = some (.string a0_1) := bc_ BK333 1 rfl; have hcz22_2 : w21.cell? ⟨gb333, 2, none⟩ = some (.string a0_2) := bc_ BK333 2 rfl; have hcz22_3 : w21.cell? ⟨gb333, 3, none⟩ = some (.int .i64 a0_3) := bc_ BK333 3 rfl; have hfz22_0 := blk_frozen BK333.out 0; have hfz22_1 := blk_frozen BK333.out 1; have hfz22_2 := blk_frozen BK333.out 2; have hfz22_3 := blk_frozen BK333.out 3; have hcz23_0 : w21.cell? ⟨gb334, 0, none⟩ = some (.slice A1_0 l1_0.length c1_0) := bc_ BK334 0 rfl; have hcz23_1 : w21.cell? ⟨gb334, 1, none⟩ = some (.string a1_1) := bc_ BK334 1 rfl; have hcz23_2 : w21.cell? ⟨gb334, 2, none⟩ = some (.string a1_2) := bc_ BK334 2 rfl; have hcz23_3 : w21.cell? ⟨gb334, 3, none⟩ = some (.int .i64 a1_3) := bc_ BK334 3 rfl; have hfz23_0 := blk_frozen BK334.out 0; have hfz23_1 := blk_frozen BK334.out 1; have hfz23_2 := blk_frozen BK334.out 2; have hfz23_3 := blk_frozen BK334.out 3) | ((with_reducible refine gc_ 49 rfl ?_); refine goesL_ (some 15) rfl rfl Tryz.func49 kr_ rfl #[.agg #[.string a0_1, .string a0_2, .int .i64 a0_3], .agg #[.string a1_1, .string a1_2, .int .i64 a1_3]] rfl mc86 ?_; (with_reducible refine (laws_eqLog.calls a0_1 a0_2 a0_3 a1_1 a1_2 a1_3 false _ A5.out).mono ?_); rintro e w24 ⟨rfl, hb⟩; refine ⟨_, rfl, ?_⟩; replace BK333 := A_ (blk_below mc116 hb); replace BK334 := A_ (blk_below mc117 hb); replace HB := A_ (below_step mc35 hb); (try clear hb)))
   go_ret
   exact ⟨mc133, mc35⟩
 ·
  replace c4 := Bool.eq_false_iff.mpr c4
  subst c4
  rw [if_neg (show ¬ (false = true) by decide)] at H
  obtain rfl := Option.some.inj H
  go_enter Tryz.func14, Tryz.ntmps14
  go_wp2_with (first | ((with_reducible refine gd_ 2 rfl ?_); refine box_event rfl (N := 2) rfl (cs := #[.slice A0_0 l0_0.length c0_0, .string a0_1, .string a0_2, .int .i64 a0_3]) (t := 33) mc142 ?_; intro gb333 hg w25 hbox hb; have BK333 := A_ (hbox); have GW333 := A_ ((mc45 : w.heap.size ≤ gb333)); have GE333 := A_ ((mc45 : w.heap.size ≤ gb333)); replace HB := A_ (below_step mc89 hb); clear hb hbox hg) | ((with_reducible refine gd_ 3 rfl ?_); refine box_event rfl (N := 3) rfl (cs := #[.slice A1_0 l1_0.length c1_0, .string a1_1, .string a1_2, .int .i64 a1_3]) (t := 33) mc142 ?_; intro gb334 hg w26 hbox hb; have BK334 := A_ (hbox); have GW334 := A_ ((mc28 : w.heap.size ≤ gb334)); have GE334 := A_ ((mc28 : w.heap.size ≤ gb334)); replace HB := A_ (below_step mc69 hb); have NB333_334 := A_ ((mc83 : gb333 ≠ gb334)); have NB334_333 := A_ ((mc84 : gb334 ≠ gb333)); replace BK333 := A_ (blk_below mc116 hb); clear hb hbox hg; have hnb27 := NB333_334.out; have hnc27 := NB334_333.out; have hcz28_0 : w26.cell? ⟨gb333, 0, none⟩ = some (.slice A0_0 l0_0.length c0_0) := bc_ BK333 0 rfl; have hcz28_1 : w26.cell? ⟨gb333, 1, none⟩ = some (.string a0_1) := bc_ BK333 1 rfl; have hcz28_2 : w26.cell? ⟨gb333, 2, none⟩ = some (.string a0_2) := bc_ BK333 2 rfl; have hcz28_3 : w26.cell? ⟨gb333, 3, none⟩ = some (.int .i64 a0_3) := bc_ BK333 3 rfl; have hfz28_0 := blk_frozen BK333.out 0; have hfz28_1 := blk_frozen BK333.out 1; have hfz28_2 := blk_frozen BK333.out 2; have hfz28_3 := blk_frozen BK333.out 3; have hcz29_0 : w26.cell? ⟨gb334, 0, none⟩ = some (.slice A1_0 l1_0.length c1_0) := bc_ BK334 0 rfl; have hcz29_1 : w26.cell? ⟨gb334, 1, none⟩ = some (.string a1_1) := bc_ BK334 1 rfl; have hcz29_2 : w26.cell? ⟨gb334, 2, none⟩ = some (.string a1_2) := bc_ BK334 2 rfl; have hcz29_3 : w26.cell? ⟨gb334, 3, none⟩ = some (.int .i64 a1_3) := bc_ BK334 3 rfl; have hfz29_0 := blk_frozen BK334.out 0; have hfz29_1 := blk_frozen BK334.out 1; have hfz29_2 := blk_frozen BK334.out 2; have hfz29_3 := blk_frozen BK334.out 3) | ((with_reducible refine gc_ 21 rfl ?_); refine goesL_ (some 9) rfl rfl Tryz.func21 kr_ rfl #[.slice A0_0 l0_0.length c0_0, .slice A1_0 l1_0.length c1_0] rfl mc86 ?_; (with_reducible refine (laws_eqWarningS.calls k _ _ l0_0 _ _ l1_0 false _ ?side1 ?side2 ?side3 ?side4 A3.out).mono ?_); (case side1 => exact mc42); (case side2 => exact HC0_0.out); (case side3 => exact mc43); (case side4 => exact HC1_0.out); rintro e w30 ⟨rfl, hb⟩; refine ⟨_, rfl, ?_⟩; replace BK333 := A_ (blk_below mc116 hb); replace BK334 := A_ (blk_below mc117 hb); replace HB := A_ (below_step mc35 hb); (try clear hb)))
  go_ret
  exact ⟨mc133, mc35⟩

end Go.Proofs.YtlnlabndaikbnaaGreatDoor.P
