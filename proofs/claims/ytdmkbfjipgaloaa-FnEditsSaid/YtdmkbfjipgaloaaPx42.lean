-- Made by pp.py of this session out of the kit's print and of contracts proved by hand; Lean checks it.
import Derived.Test.YtdmkbfjipgaloaaMc
import Derived.Test.YtdmkbfjipgaloaaPx0
import Derived.Test.YtdmkbfjipgaloaaPx4
import Derived.Test.YtdmkbfjipgaloaaPx40
import Derived.Test.YtdmkbfjipgaloaaPx41
namespace Go.Proofs.Ytdmkbfjipgaloaa.P
open Go.RowKit Go.Proofs.YtdmkbfjipgaloaaW.PrintWords Go.Proofs.YtdmkbfjipgaloaaW.PrintLast Go.Proofs.YtdmkbfjipgaloaaW.PrintMore
attribute [local go_sem] max2_int min2_int max_two min_two max_three min_three max_four min_four   -- for this text's walks alone
set_option linter.unusedVariables false
set_option linter.unusedSimpArgs false

/-! ### impl_FieldTotal: function 77 -/
def impl_FieldTotal.f (k : Nat) (a0_0 : Int) (a0_1 : Int) (l0_2 : List Int) : Option (Int × Bool) := (impl_IsValidField.f a0_0 a0_1 l0_2).bind fun t1136 => (if t1136 = true then ((impl_valuesOf.f a0_0 a0_1 l0_2).bind fun t1137 => ((impl_sumOf.f k t1137).bind fun t1140 => (some (t1140, true)))) else (some (0, false)))
set_option maxHeartbeats 8000000 in
set_option maxRecDepth 100000 in
theorem impl_FieldTotal.calls (k : Nat) (a0_0 : Int) (a0_1 : Int) (A0_2 : Option Addr) (c0_2 : Nat) (l0_2 : List Int) (r1 : Int) (r2 : Bool) (w : World) (hr0_2 : Kd.C (Kd.int .i64) w A0_2 l0_2.length l0_2) (hc0_2 : l0_2.length ≤ c0_2) (h : impl_FieldTotal.f k a0_0 a0_1 l0_2 = some (r1, r2)) :
  Calls Try.prog 77 #[.agg #[.int .i64 a0_0, .int .i64 a0_1, .slice A0_2 l0_2.length c0_2]] w fun e w' => e = .returned (.tuple #[.int .i64 r1, .bool r2]) ∧ Below w.heap.size w w' := by
 have hu26 := Try.underlying26
 have HR0_2 := A_ hr0_2
 have HC0_2 := A_ hc0_2
 clear hr0_2 hc0_2
 have HB := A_ (Below.refl w.heap.size w)
 have H : ((impl_IsValidField.f a0_0 a0_1 l0_2).bind fun t1136 => (if t1136 = true then ((impl_valuesOf.f a0_0 a0_1 l0_2).bind fun t1137 => ((impl_sumOf.f k t1137).bind fun t1140 => (some (t1140, true)))) else (some (0, false)))) = some (r1, r2) := h
 clear h
 obtain ⟨t1136, A20, H⟩ := oB_ H
 have A2 := A_ A20
 clear A20
 by_cases c3 : t1136 = true
 rotate_left
 ·
  replace c3 := Bool.eq_false_iff.mpr c3
  subst c3
  rw [if_neg (show ¬ (false = true) by decide)] at H
  simp only [Option.some.injEq, Prod.mk.injEq] at H
  obtain ⟨rfl, rfl⟩ := H
  go_enter Try.func77, Try.ntmps77
  go_wp2_with (first | ((with_reducible refine gd_ 1 rfl ?_); refine box_event rfl (N := 1) rfl (cs := #[.int .i64 a0_0, .int .i64 a0_1, .slice A0_2 l0_2.length c0_2]) (t := 26) mc353 ?_; intro gb1135 hg w12 hbox hb; have BK1135 := A_ (hbox); have GW1135 := A_ ((mc213 : w.heap.size ≤ gb1135)); have GE1135 := A_ ((mc213 : w.heap.size ≤ gb1135)); replace HB := A_ (below_step mc249 hb); clear hb hbox hg; have hcz13_0 : w12.cell? ⟨gb1135, 0, none⟩ = some (.int .i64 a0_0) := bc_ BK1135 0 rfl; have hcz13_1 : w12.cell? ⟨gb1135, 1, none⟩ = some (.int .i64 a0_1) := bc_ BK1135 1 rfl; have hcz13_2 : w12.cell? ⟨gb1135, 2, none⟩ = some (.slice A0_2 l0_2.length c0_2) := bc_ BK1135 2 rfl; have hfz13_0 := blk_frozen BK1135.out 0; have hfz13_1 := blk_frozen BK1135.out 1; have hfz13_2 := blk_frozen BK1135.out 2) | ((with_reducible refine gc_ 80 rfl ?_); refine goesL_ (some 5) rfl rfl Try.func80 kr_ rfl #[.agg #[.int .i64 a0_0, .int .i64 a0_1, .slice A0_2 l0_2.length c0_2]] rfl mc247 ?_; (with_reducible refine (impl_IsValidField.calls a0_0 a0_1 _ _ l0_2 false _ ?side1 ?side2 A2.out).mono ?_); (case side1 => exact mc200); (case side2 => exact HC0_2.out); rintro e w14 ⟨rfl, hb⟩; refine ⟨_, rfl, ?_⟩; replace BK1135 := A_ (blk_below mc259 hb); replace HB := A_ (below_step mc210 hb); (try clear hb)))
  go_ret2
  exact ⟨mc332, mc210⟩
 subst c3
 rw [if_pos rfl] at H
 obtain ⟨t1137, A40, H⟩ := oB_ H
 have A4 := A_ A40
 clear A40
 obtain ⟨t1140, A50, H⟩ := oB_ H
 have A5 := A_ A50
 clear A50
 simp only [Option.some.injEq, Prod.mk.injEq] at H
 obtain ⟨rfl, rfl⟩ := H
 go_enter Try.func77, Try.ntmps77
 go_wp2_with (first | ((with_reducible refine gd_ 1 rfl ?_); refine box_event rfl (N := 1) rfl (cs := #[.int .i64 a0_0, .int .i64 a0_1, .slice A0_2 l0_2.length c0_2]) (t := 26) mc353 ?_; intro gb1135 hg w6 hbox hb; have BK1135 := A_ (hbox); have GW1135 := A_ ((mc213 : w.heap.size ≤ gb1135)); have GE1135 := A_ ((mc213 : w.heap.size ≤ gb1135)); replace HB := A_ (below_step mc249 hb); clear hb hbox hg; have hcz7_0 : w6.cell? ⟨gb1135, 0, none⟩ = some (.int .i64 a0_0) := bc_ BK1135 0 rfl; have hcz7_1 : w6.cell? ⟨gb1135, 1, none⟩ = some (.int .i64 a0_1) := bc_ BK1135 1 rfl; have hcz7_2 : w6.cell? ⟨gb1135, 2, none⟩ = some (.slice A0_2 l0_2.length c0_2) := bc_ BK1135 2 rfl; have hfz7_0 := blk_frozen BK1135.out 0; have hfz7_1 := blk_frozen BK1135.out 1; have hfz7_2 := blk_frozen BK1135.out 2) | ((with_reducible refine gc_ 80 rfl ?_); refine goesL_ (some 5) rfl rfl Try.func80 kr_ rfl #[.agg #[.int .i64 a0_0, .int .i64 a0_1, .slice A0_2 l0_2.length c0_2]] rfl mc247 ?_; (with_reducible refine (impl_IsValidField.calls a0_0 a0_1 _ _ l0_2 true _ ?side1 ?side2 A2.out).mono ?_); (case side1 => exact mc200); (case side2 => exact HC0_2.out); rintro e w8 ⟨rfl, hb⟩; refine ⟨_, rfl, ?_⟩; replace BK1135 := A_ (blk_below mc259 hb); replace HB := A_ (below_step mc210 hb); (try clear hb); have hcz9_0 : w8.cell? ⟨gb1135, 0, none⟩ = some (.int .i64 a0_0) := bc_ BK1135 0 rfl; have hcz9_1 : w8.cell? ⟨gb1135, 1, none⟩ = some (.int .i64 a0_1) := bc_ BK1135 1 rfl; have hcz9_2 : w8.cell? ⟨gb1135, 2, none⟩ = some (.slice A0_2 l0_2.length c0_2) := bc_ BK1135 2 rfl; have hfz9_0 := blk_frozen BK1135.out 0; have hfz9_1 := blk_frozen BK1135.out 1; have hfz9_2 := blk_frozen BK1135.out 2) | ((with_reducible refine gc_ 96 rfl ?_); refine goesL_ (some 8) rfl rfl Try.func96 kr_ rfl #[.agg #[.int .i64 a0_0, .int .i64 a0_1, .slice A0_2 l0_2.length c0_2]] rfl mc247 ?_; (with_reducible refine (impl_valuesOf.calls a0_0 a0_1 _ _ l0_2 t1137 _ ?side1 ?side2 A4.out).mono ?_); (case side1 => exact mc200); (case side2 => exact HC0_2.out); rintro e w10 ⟨v1138, rfl, ho0, hb⟩; refine ⟨_, rfl, ?_⟩; have HO1139 := A_ (Kd.R_lower ho0 (below_size mc210)); replace BK1135 := A_ (blk_below mc259 hb); replace HB := A_ (below_step mc210 hb); (try clear hb); (try clear ho0); obtain ⟨Ao11, co11, eo11⟩ := Kd.R_slice HO1139.out; subst eo11) | ((with_reducible refine gc_ 95 rfl ?_); refine goesL_ (some 9) rfl rfl Try.func95 kr_ rfl #[.slice Ao11 t1137.length co11] rfl mc247 ?_; (with_reducible refine (impl_sumOf.calls k _ _ t1137 t1140 _ ?side1 ?side2 A5.out).mono ?_); (case side1 => repeat (first | exact (Kd.R_reads' HO1139.out).2.2 | (with_reducible refine Kd.C_alloc ?_ _) | (with_reducible refine Kd.C_drewN ?_ _) | (with_reducible refine Kd.C_drew ?_))); (case side2 => exact (Kd.R_reads' HO1139.out).2.1); rintro e w' ⟨rfl, ⟨nd, rfl⟩⟩; refine ⟨_, rfl, ?_⟩))
 go_ret2
 exact ⟨mc332, mc210⟩

/-! ### impl_SameTotal: function 41 -/
def impl_SameTotal.f (k : Nat) (a0_0 : Int) (a0_1 : Int) (l0_2 : List Int) (a1_0 : Int) (a1_1 : Int) (l1_2 : List Int) : Option (Bool × Bool) := (impl_FieldTotal.f k a0_0 a0_1 l0_2).bind fun bt1143 => ((impl_FieldTotal.f k a1_0 a1_1 l1_2).bind fun bt1145 => (if bt1143.2 = true then (if bt1145.2 = true then (some ((bt1143.1 == bt1145.1), true)) else (some (false, false))) else (some (false, false))))
set_option maxHeartbeats 8000000 in
set_option maxRecDepth 100000 in
theorem impl_SameTotal.calls (k : Nat) (a0_0 : Int) (a0_1 : Int) (A0_2 : Option Addr) (c0_2 : Nat) (l0_2 : List Int) (a1_0 : Int) (a1_1 : Int) (A1_2 : Option Addr) (c1_2 : Nat) (l1_2 : List Int) (r1 : Bool) (r2 : Bool) (w : World) (hr0_2 : Kd.C (Kd.int .i64) w A0_2 l0_2.length l0_2) (hc0_2 : l0_2.length ≤ c0_2) (hr1_2 : Kd.C (Kd.int .i64) w A1_2 l1_2.length l1_2) (hc1_2 : l1_2.length ≤ c1_2) (h : impl_SameTotal.f k a0_0 a0_1 l0_2 a1_0 a1_1 l1_2 = some (r1, r2)) :
  Calls Try.prog 41 #[.agg #[.int .i64 a0_0, .int .i64 a0_1, .slice A0_2 l0_2.length c0_2], .agg #[.int .i64 a1_0, .int .i64 a1_1, .slice A1_2 l1_2.length c1_2]] w fun e w' => e = .returned (.tuple #[.bool r1, .bool r2]) ∧ Below w.heap.size w w' := by
 have hu26 := Try.underlying26
 have HR0_2 := A_ hr0_2
 have HC0_2 := A_ hc0_2
 clear hr0_2 hc0_2
 have HR1_2 := A_ hr1_2
 have HC1_2 := A_ hc1_2
 clear hr1_2 hc1_2
 have HB := A_ (Below.refl w.heap.size w)
 have H : ((impl_FieldTotal.f k a0_0 a0_1 l0_2).bind fun bt1143 => ((impl_FieldTotal.f k a1_0 a1_1 l1_2).bind fun bt1145 => (if bt1143.2 = true then (if bt1145.2 = true then (some ((bt1143.1 == bt1145.1), true)) else (some (false, false))) else (some (false, false))))) = some (r1, r2) := h
 clear h
 obtain ⟨⟨t1143, t1144⟩, A30, H⟩ := oB_ H
 have A3 := A_ A30
 clear A30
 obtain ⟨⟨t1145, t1146⟩, A40, H⟩ := oB_ H
 have A4 := A_ A40
 clear A40
 by_cases c5 : t1144 = true
 rotate_left
 ·
  replace c5 := Bool.eq_false_iff.mpr c5
  subst c5
  rw [if_neg (show ¬ (false = true) by decide)] at H
  simp only [Option.some.injEq, Prod.mk.injEq] at H
  obtain ⟨rfl, rfl⟩ := H
  go_enter Try.func41, Try.ntmps41
  go_wp2_with (first | ((with_reducible refine gd_ 2 rfl ?_); refine box_event rfl (N := 2) rfl (cs := #[.int .i64 a0_0, .int .i64 a0_1, .slice A0_2 l0_2.length c0_2]) (t := 26) mc353 ?_; intro gb1141 hg w21 hbox hb; have BK1141 := A_ (hbox); have GW1141 := A_ ((mc213 : w.heap.size ≤ gb1141)); have GE1141 := A_ ((mc213 : w.heap.size ≤ gb1141)); replace HB := A_ (below_step mc249 hb); clear hb hbox hg) | ((with_reducible refine gd_ 3 rfl ?_); refine box_event rfl (N := 3) rfl (cs := #[.int .i64 a1_0, .int .i64 a1_1, .slice A1_2 l1_2.length c1_2]) (t := 26) mc353 ?_; intro gb1142 hg w22 hbox hb; have BK1142 := A_ (hbox); have GW1142 := A_ ((mc162 : w.heap.size ≤ gb1142)); have GE1142 := A_ ((mc162 : w.heap.size ≤ gb1142)); replace HB := A_ (below_step mc211 hb); have NB1141_1142 := A_ ((mc233 : gb1141 ≠ gb1142)); have NB1142_1141 := A_ ((mc234 : gb1142 ≠ gb1141)); replace BK1141 := A_ (blk_below mc260 hb); clear hb hbox hg; have hnb23 := NB1141_1142.out; have hnc23 := NB1142_1141.out; have hcz24_0 : w22.cell? ⟨gb1141, 0, none⟩ = some (.int .i64 a0_0) := bc_ BK1141 0 rfl; have hcz24_1 : w22.cell? ⟨gb1141, 1, none⟩ = some (.int .i64 a0_1) := bc_ BK1141 1 rfl; have hcz24_2 : w22.cell? ⟨gb1141, 2, none⟩ = some (.slice A0_2 l0_2.length c0_2) := bc_ BK1141 2 rfl; have hfz24_0 := blk_frozen BK1141.out 0; have hfz24_1 := blk_frozen BK1141.out 1; have hfz24_2 := blk_frozen BK1141.out 2) | ((with_reducible refine gc_ 77 rfl ?_); refine goesL_ (some 12) rfl rfl Try.func77 kr_ rfl #[.agg #[.int .i64 a0_0, .int .i64 a0_1, .slice A0_2 l0_2.length c0_2]] rfl mc247 ?_; (with_reducible refine (impl_FieldTotal.calls k a0_0 a0_1 _ _ l0_2 t1143 false _ ?side1 ?side2 A3.out).mono ?_); (case side1 => exact mc200); (case side2 => exact HC0_2.out); rintro e w25 ⟨rfl, hb⟩; refine ⟨_, rfl, ?_⟩; replace BK1141 := A_ (blk_below mc260 hb); replace BK1142 := A_ (blk_below mc261 hb); replace HB := A_ (below_step mc159 hb); (try clear hb); have hcz26_0 : w25.cell? ⟨gb1142, 0, none⟩ = some (.int .i64 a1_0) := bc_ BK1142 0 rfl; have hcz26_1 : w25.cell? ⟨gb1142, 1, none⟩ = some (.int .i64 a1_1) := bc_ BK1142 1 rfl; have hcz26_2 : w25.cell? ⟨gb1142, 2, none⟩ = some (.slice A1_2 l1_2.length c1_2) := bc_ BK1142 2 rfl; have hfz26_0 := blk_frozen BK1142.out 0; have hfz26_1 := blk_frozen BK1142.out 1; have hfz26_2 := blk_frozen BK1142.out 2) | ((with_reducible refine gc_ 77 rfl ?_); refine goesL_ (some 17) rfl rfl Try.func77 kr_ rfl #[.agg #[.int .i64 a1_0, .int .i64 a1_1, .slice A1_2 l1_2.length c1_2]] rfl mc247 ?_; (with_reducible refine (impl_FieldTotal.calls k a1_0 a1_1 _ _ l1_2 t1145 t1146 _ ?side1 ?side2 A4.out).mono ?_); (case side1 => exact mc201); (case side2 => exact HC1_2.out); rintro e w27 ⟨rfl, hb⟩; refine ⟨_, rfl, ?_⟩; replace BK1141 := A_ (blk_below mc260 hb); replace BK1142 := A_ (blk_below mc261 hb); replace HB := A_ (below_step mc159 hb); (try clear hb)))
  go_ret2
  exact ⟨mc332, mc159⟩
 subst c5
 rw [if_pos rfl] at H
 by_cases c6 : t1146 = true
 ·
  subst c6
  rw [if_pos rfl] at H
  simp only [Option.some.injEq, Prod.mk.injEq] at H
  obtain ⟨rfl, rfl⟩ := H
  go_enter Try.func41, Try.ntmps41
  go_wp2_with (first | ((with_reducible refine gd_ 2 rfl ?_); refine box_event rfl (N := 2) rfl (cs := #[.int .i64 a0_0, .int .i64 a0_1, .slice A0_2 l0_2.length c0_2]) (t := 26) mc353 ?_; intro gb1141 hg w7 hbox hb; have BK1141 := A_ (hbox); have GW1141 := A_ ((mc213 : w.heap.size ≤ gb1141)); have GE1141 := A_ ((mc213 : w.heap.size ≤ gb1141)); replace HB := A_ (below_step mc249 hb); clear hb hbox hg) | ((with_reducible refine gd_ 3 rfl ?_); refine box_event rfl (N := 3) rfl (cs := #[.int .i64 a1_0, .int .i64 a1_1, .slice A1_2 l1_2.length c1_2]) (t := 26) mc353 ?_; intro gb1142 hg w8 hbox hb; have BK1142 := A_ (hbox); have GW1142 := A_ ((mc162 : w.heap.size ≤ gb1142)); have GE1142 := A_ ((mc162 : w.heap.size ≤ gb1142)); replace HB := A_ (below_step mc211 hb); have NB1141_1142 := A_ ((mc233 : gb1141 ≠ gb1142)); have NB1142_1141 := A_ ((mc234 : gb1142 ≠ gb1141)); replace BK1141 := A_ (blk_below mc260 hb); clear hb hbox hg; have hnb9 := NB1141_1142.out; have hnc9 := NB1142_1141.out; have hcz10_0 : w8.cell? ⟨gb1141, 0, none⟩ = some (.int .i64 a0_0) := bc_ BK1141 0 rfl; have hcz10_1 : w8.cell? ⟨gb1141, 1, none⟩ = some (.int .i64 a0_1) := bc_ BK1141 1 rfl; have hcz10_2 : w8.cell? ⟨gb1141, 2, none⟩ = some (.slice A0_2 l0_2.length c0_2) := bc_ BK1141 2 rfl; have hfz10_0 := blk_frozen BK1141.out 0; have hfz10_1 := blk_frozen BK1141.out 1; have hfz10_2 := blk_frozen BK1141.out 2) | ((with_reducible refine gc_ 77 rfl ?_); refine goesL_ (some 12) rfl rfl Try.func77 kr_ rfl #[.agg #[.int .i64 a0_0, .int .i64 a0_1, .slice A0_2 l0_2.length c0_2]] rfl mc247 ?_; (with_reducible refine (impl_FieldTotal.calls k a0_0 a0_1 _ _ l0_2 t1143 true _ ?side1 ?side2 A3.out).mono ?_); (case side1 => exact mc200); (case side2 => exact HC0_2.out); rintro e w11 ⟨rfl, hb⟩; refine ⟨_, rfl, ?_⟩; replace BK1141 := A_ (blk_below mc260 hb); replace BK1142 := A_ (blk_below mc261 hb); replace HB := A_ (below_step mc159 hb); (try clear hb); have hcz12_0 : w11.cell? ⟨gb1142, 0, none⟩ = some (.int .i64 a1_0) := bc_ BK1142 0 rfl; have hcz12_1 : w11.cell? ⟨gb1142, 1, none⟩ = some (.int .i64 a1_1) := bc_ BK1142 1 rfl; have hcz12_2 : w11.cell? ⟨gb1142, 2, none⟩ = some (.slice A1_2 l1_2.length c1_2) := bc_ BK1142 2 rfl; have hfz12_0 := blk_frozen BK1142.out 0; have hfz12_1 := blk_frozen BK1142.out 1; have hfz12_2 := blk_frozen BK1142.out 2) | ((with_reducible refine gc_ 77 rfl ?_); refine goesL_ (some 17) rfl rfl Try.func77 kr_ rfl #[.agg #[.int .i64 a1_0, .int .i64 a1_1, .slice A1_2 l1_2.length c1_2]] rfl mc247 ?_; (with_reducible refine (impl_FieldTotal.calls k a1_0 a1_1 _ _ l1_2 t1145 true _ ?side1 ?side2 A4.out).mono ?_); (case side1 => exact mc201); (case side2 => exact HC1_2.out); rintro e w13 ⟨rfl, hb⟩; refine ⟨_, rfl, ?_⟩; replace BK1141 := A_ (blk_below mc260 hb); replace BK1142 := A_ (blk_below mc261 hb); replace HB := A_ (below_step mc159 hb); (try clear hb)))
  go_ret2
  exact ⟨mc332, mc159⟩
 replace c6 := Bool.eq_false_iff.mpr c6
 subst c6
 rw [if_neg (show ¬ (false = true) by decide)] at H
 simp only [Option.some.injEq, Prod.mk.injEq] at H
 obtain ⟨rfl, rfl⟩ := H
 go_enter Try.func41, Try.ntmps41
 go_wp2_with (first | ((with_reducible refine gd_ 2 rfl ?_); refine box_event rfl (N := 2) rfl (cs := #[.int .i64 a0_0, .int .i64 a0_1, .slice A0_2 l0_2.length c0_2]) (t := 26) mc353 ?_; intro gb1141 hg w14 hbox hb; have BK1141 := A_ (hbox); have GW1141 := A_ ((mc213 : w.heap.size ≤ gb1141)); have GE1141 := A_ ((mc213 : w.heap.size ≤ gb1141)); replace HB := A_ (below_step mc249 hb); clear hb hbox hg) | ((with_reducible refine gd_ 3 rfl ?_); refine box_event rfl (N := 3) rfl (cs := #[.int .i64 a1_0, .int .i64 a1_1, .slice A1_2 l1_2.length c1_2]) (t := 26) mc353 ?_; intro gb1142 hg w15 hbox hb; have BK1142 := A_ (hbox); have GW1142 := A_ ((mc162 : w.heap.size ≤ gb1142)); have GE1142 := A_ ((mc162 : w.heap.size ≤ gb1142)); replace HB := A_ (below_step mc211 hb); have NB1141_1142 := A_ ((mc233 : gb1141 ≠ gb1142)); have NB1142_1141 := A_ ((mc234 : gb1142 ≠ gb1141)); replace BK1141 := A_ (blk_below mc260 hb); clear hb hbox hg; have hnb16 := NB1141_1142.out; have hnc16 := NB1142_1141.out; have hcz17_0 : w15.cell? ⟨gb1141, 0, none⟩ = some (.int .i64 a0_0) := bc_ BK1141 0 rfl; have hcz17_1 : w15.cell? ⟨gb1141, 1, none⟩ = some (.int .i64 a0_1) := bc_ BK1141 1 rfl; have hcz17_2 : w15.cell? ⟨gb1141, 2, none⟩ = some (.slice A0_2 l0_2.length c0_2) := bc_ BK1141 2 rfl; have hfz17_0 := blk_frozen BK1141.out 0; have hfz17_1 := blk_frozen BK1141.out 1; have hfz17_2 := blk_frozen BK1141.out 2) | ((with_reducible refine gc_ 77 rfl ?_); refine goesL_ (some 12) rfl rfl Try.func77 kr_ rfl #[.agg #[.int .i64 a0_0, .int .i64 a0_1, .slice A0_2 l0_2.length c0_2]] rfl mc247 ?_; (with_reducible refine (impl_FieldTotal.calls k a0_0 a0_1 _ _ l0_2 t1143 true _ ?side1 ?side2 A3.out).mono ?_); (case side1 => exact mc200); (case side2 => exact HC0_2.out); rintro e w18 ⟨rfl, hb⟩; refine ⟨_, rfl, ?_⟩; replace BK1141 := A_ (blk_below mc260 hb); replace BK1142 := A_ (blk_below mc261 hb); replace HB := A_ (below_step mc159 hb); (try clear hb); have hcz19_0 : w18.cell? ⟨gb1142, 0, none⟩ = some (.int .i64 a1_0) := bc_ BK1142 0 rfl; have hcz19_1 : w18.cell? ⟨gb1142, 1, none⟩ = some (.int .i64 a1_1) := bc_ BK1142 1 rfl; have hcz19_2 : w18.cell? ⟨gb1142, 2, none⟩ = some (.slice A1_2 l1_2.length c1_2) := bc_ BK1142 2 rfl; have hfz19_0 := blk_frozen BK1142.out 0; have hfz19_1 := blk_frozen BK1142.out 1; have hfz19_2 := blk_frozen BK1142.out 2) | ((with_reducible refine gc_ 77 rfl ?_); refine goesL_ (some 17) rfl rfl Try.func77 kr_ rfl #[.agg #[.int .i64 a1_0, .int .i64 a1_1, .slice A1_2 l1_2.length c1_2]] rfl mc247 ?_; (with_reducible refine (impl_FieldTotal.calls k a1_0 a1_1 _ _ l1_2 t1145 false _ ?side1 ?side2 A4.out).mono ?_); (case side1 => exact mc201); (case side2 => exact HC1_2.out); rintro e w20 ⟨rfl, hb⟩; refine ⟨_, rfl, ?_⟩; replace BK1141 := A_ (blk_below mc260 hb); replace BK1142 := A_ (blk_below mc261 hb); replace HB := A_ (below_step mc159 hb); (try clear hb)))
 go_ret2
 exact ⟨mc332, mc159⟩

end Go.Proofs.Ytdmkbfjipgaloaa.P
