-- Made by pp.py of this session out of the kit's print and of contracts proved by hand; Lean checks it.
import Derived.Test.YtdmkbfjipgaloaaMc
import Derived.Test.YtdmkbfjipgaloaaPx0
import Derived.Test.YtdmkbfjipgaloaaPx6
import Derived.Test.YtdmkbfjipgaloaaPx9
namespace Go.Proofs.Ytdmkbfjipgaloaa.P
open Go.RowKit Go.Proofs.YtdmkbfjipgaloaaW.PrintWords Go.Proofs.YtdmkbfjipgaloaaW.PrintLast Go.Proofs.YtdmkbfjipgaloaaW.PrintMore
attribute [local go_sem] max2_int min2_int max_two min_two max_three min_three max_four min_four   -- for this text's walks alone
set_option linter.unusedVariables false
set_option linter.unusedSimpArgs false

/-! ### spec_l2Same: function 63 -/
def spec_l2Same.f (k : Nat) (a0_0 : Int) (a0_1 : Int) (l0_2 : List Int) (a1_0 : Int) (a1_1 : Int) (l1_2 : List Int) : Option (Bool) := (spec_l2Good.f k a0_0 a0_1 l0_2).bind fun t676 => (if t676 = true then ((spec_l2Good.f k a1_0 a1_1 l1_2).bind fun t677 => (if t677 = true then (if a0_0 = a1_0 then (some (a0_1 == a1_1)) else (some false)) else (some false))) else (some false))
theorem spec_l2Same.mono : ∀ a0 a1 a2 a3 a4 a5 k, LeO (spec_l2Same.f k a0 a1 a2 a3 a4 a5) (spec_l2Same.f (k + 1) a0 a1 a2 a3 a4 a5) := by
 intro a0 a1 a2 a3 a4 a5 k
 unfold spec_l2Same.f
 repeat' first
  | (with_reducible exact spec_l2Good.mono _ _ _ _)
  | (with_reducible exact LeO.refl _)
  | (with_reducible exact LeO.none _)
  | (with_reducible refine LeO.ite ?_ ?_)
  | (with_reducible refine LeO.bind ?_ (fun _ => ?_))
  | exact spec_l2Good.mono _ _ _ _
  | exact LeO.none _
  | refine LeO.ite ?_ ?_
  | refine LeO.bind ?_ (fun _ => ?_)
set_option maxHeartbeats 8000000 in
set_option maxRecDepth 100000 in
theorem spec_l2Same.calls (k : Nat) (a0_0 : Int) (a0_1 : Int) (A0_2 : Option Addr) (c0_2 : Nat) (l0_2 : List Int) (a1_0 : Int) (a1_1 : Int) (A1_2 : Option Addr) (c1_2 : Nat) (l1_2 : List Int) (r : Bool) (w : World) (hr0_2 : Kd.C (Kd.int .i64) w A0_2 l0_2.length l0_2) (hc0_2 : l0_2.length ≤ c0_2) (hr1_2 : Kd.C (Kd.int .i64) w A1_2 l1_2.length l1_2) (hc1_2 : l1_2.length ≤ c1_2) (h : spec_l2Same.f k a0_0 a0_1 l0_2 a1_0 a1_1 l1_2 = some r) :
  Calls Try.prog 63 #[.agg #[.int .i64 a0_0, .int .i64 a0_1, .slice A0_2 l0_2.length c0_2], .agg #[.int .i64 a1_0, .int .i64 a1_1, .slice A1_2 l1_2.length c1_2]] w fun e w' => e = .returned (.bool r) ∧ Below w.heap.size w w' := by
 have hu26 := Try.underlying26
 have HR0_2 := Aside0.mk hr0_2
 have HC0_2 := Aside0.mk hc0_2
 clear hr0_2 hc0_2
 have HR1_2 := Aside0.mk hr1_2
 have HC1_2 := Aside0.mk hc1_2
 clear hr1_2 hc1_2
 have HB := Aside0.mk (Below.refl w.heap.size w)
 have H : ((spec_l2Good.f k a0_0 a0_1 l0_2).bind fun t676 => (if t676 = true then ((spec_l2Good.f k a1_0 a1_1 l1_2).bind fun t677 => (if t677 = true then (if a0_0 = a1_0 then (some (a0_1 == a1_1)) else (some false)) else (some false))) else (some false))) = some r := h
 clear h
 obtain ⟨t676, A30, H⟩ := oB_ H
 have A3 := Aside0.mk A30
 clear A30
 by_cases c4 : t676 = true
 rotate_left
 ·
  replace c4 := Bool.eq_false_iff.mpr c4
  subst c4
  rw [if_neg (show ¬ (false = true) by decide)] at H
  obtain rfl := Option.some.inj H
  go_enter Try.func63, Try.ntmps63
  go_wp2_with (first | ((with_reducible refine gate_dst (N := 2) rfl ?_); refine box_event rfl (N := 2) rfl (cs := #[.int .i64 a0_0, .int .i64 a0_1, .slice A0_2 l0_2.length c0_2]) (t := 26) mc242 ?_; intro gb674 hg w33 hbox hb; have BK674 := Aside0.mk (hbox); have GW674 := Aside0.mk ((mc145 : w.heap.size ≤ gb674)); have GE674 := Aside0.mk ((mc145 : w.heap.size ≤ gb674)); replace HB := Aside0.mk (below_step mc177 hb); clear hb hbox hg) | ((with_reducible refine gate_dst (N := 3) rfl ?_); refine box_event rfl (N := 3) rfl (cs := #[.int .i64 a1_0, .int .i64 a1_1, .slice A1_2 l1_2.length c1_2]) (t := 26) mc242 ?_; intro gb675 hg w34 hbox hb; have BK675 := Aside0.mk (hbox); have GW675 := Aside0.mk ((mc103 : w.heap.size ≤ gb675)); have GE675 := Aside0.mk ((mc103 : w.heap.size ≤ gb675)); replace HB := Aside0.mk (below_step mc161 hb); have NB674_675 := Aside0.mk ((mc167 : gb674 ≠ gb675)); have NB675_674 := Aside0.mk ((mc168 : gb675 ≠ gb674)); replace BK674 := Aside0.mk (blk_below mc192 hb); clear hb hbox hg; have hnb35 := NB674_675.out; have hnc35 := NB675_674.out; have hcz36_0 : w34.cell? ⟨gb674, 0, none⟩ = some (.int .i64 a0_0) := bc_ BK674 0 rfl; have hcz36_1 : w34.cell? ⟨gb674, 1, none⟩ = some (.int .i64 a0_1) := bc_ BK674 1 rfl; have hcz36_2 : w34.cell? ⟨gb674, 2, none⟩ = some (.slice A0_2 l0_2.length c0_2) := bc_ BK674 2 rfl; have hfz36_0 := blk_frozen BK674.out 0; have hfz36_1 := blk_frozen BK674.out 1; have hfz36_2 := blk_frozen BK674.out 2) | ((with_reducible refine gate_callee (f := 85) rfl ?_); refine goesL_ (some 6) rfl rfl Try.func85 (by kernel_rfl) rfl #[.agg #[.int .i64 a0_0, .int .i64 a0_1, .slice A0_2 l0_2.length c0_2]] rfl mc173 ?_; (with_reducible refine (spec_l2Good.calls k a0_0 a0_1 _ _ l0_2 false _ ?side1 ?side2 A3.out).mono ?_); (case side1 => exact mc132); (case side2 => exact HC0_2.out); rintro e w37 ⟨rfl, hb⟩; refine ⟨_, rfl, ?_⟩; replace BK674 := Aside0.mk (blk_below mc192 hb); replace BK675 := Aside0.mk (blk_below mc193 hb); replace HB := Aside0.mk (below_step mc112 hb); (try clear hb); (try clear hk)))
  go_ret
  exact ⟨mc225, mc112⟩
 subst c4
 rw [if_pos rfl] at H
 obtain ⟨t677, A50, H⟩ := oB_ H
 have A5 := Aside0.mk A50
 clear A50
 by_cases c6 : t677 = true
 rotate_left
 ·
  replace c6 := Bool.eq_false_iff.mpr c6
  subst c6
  rw [if_neg (show ¬ (false = true) by decide)] at H
  obtain rfl := Option.some.inj H
  go_enter Try.func63, Try.ntmps63
  go_wp2_with (first | ((with_reducible refine gate_dst (N := 2) rfl ?_); refine box_event rfl (N := 2) rfl (cs := #[.int .i64 a0_0, .int .i64 a0_1, .slice A0_2 l0_2.length c0_2]) (t := 26) mc242 ?_; intro gb674 hg w26 hbox hb; have BK674 := Aside0.mk (hbox); have GW674 := Aside0.mk ((mc145 : w.heap.size ≤ gb674)); have GE674 := Aside0.mk ((mc145 : w.heap.size ≤ gb674)); replace HB := Aside0.mk (below_step mc177 hb); clear hb hbox hg) | ((with_reducible refine gate_dst (N := 3) rfl ?_); refine box_event rfl (N := 3) rfl (cs := #[.int .i64 a1_0, .int .i64 a1_1, .slice A1_2 l1_2.length c1_2]) (t := 26) mc242 ?_; intro gb675 hg w27 hbox hb; have BK675 := Aside0.mk (hbox); have GW675 := Aside0.mk ((mc103 : w.heap.size ≤ gb675)); have GE675 := Aside0.mk ((mc103 : w.heap.size ≤ gb675)); replace HB := Aside0.mk (below_step mc161 hb); have NB674_675 := Aside0.mk ((mc167 : gb674 ≠ gb675)); have NB675_674 := Aside0.mk ((mc168 : gb675 ≠ gb674)); replace BK674 := Aside0.mk (blk_below mc192 hb); clear hb hbox hg; have hnb28 := NB674_675.out; have hnc28 := NB675_674.out; have hcz29_0 : w27.cell? ⟨gb674, 0, none⟩ = some (.int .i64 a0_0) := bc_ BK674 0 rfl; have hcz29_1 : w27.cell? ⟨gb674, 1, none⟩ = some (.int .i64 a0_1) := bc_ BK674 1 rfl; have hcz29_2 : w27.cell? ⟨gb674, 2, none⟩ = some (.slice A0_2 l0_2.length c0_2) := bc_ BK674 2 rfl; have hfz29_0 := blk_frozen BK674.out 0; have hfz29_1 := blk_frozen BK674.out 1; have hfz29_2 := blk_frozen BK674.out 2) | ((with_reducible refine gate_callee (f := 85) rfl ?_); refine goesL_ (some 6) rfl rfl Try.func85 (by kernel_rfl) rfl #[.agg #[.int .i64 a0_0, .int .i64 a0_1, .slice A0_2 l0_2.length c0_2]] rfl mc173 ?_; (with_reducible refine (spec_l2Good.calls k a0_0 a0_1 _ _ l0_2 true _ ?side1 ?side2 A3.out).mono ?_); (case side1 => exact mc132); (case side2 => exact HC0_2.out); rintro e w30 ⟨rfl, hb⟩; refine ⟨_, rfl, ?_⟩; replace BK674 := Aside0.mk (blk_below mc192 hb); replace BK675 := Aside0.mk (blk_below mc193 hb); replace HB := Aside0.mk (below_step mc112 hb); (try clear hb); (try clear hk); have hcz31_0 : w30.cell? ⟨gb675, 0, none⟩ = some (.int .i64 a1_0) := bc_ BK675 0 rfl; have hcz31_1 : w30.cell? ⟨gb675, 1, none⟩ = some (.int .i64 a1_1) := bc_ BK675 1 rfl; have hcz31_2 : w30.cell? ⟨gb675, 2, none⟩ = some (.slice A1_2 l1_2.length c1_2) := bc_ BK675 2 rfl; have hfz31_0 := blk_frozen BK675.out 0; have hfz31_1 := blk_frozen BK675.out 1; have hfz31_2 := blk_frozen BK675.out 2) | (go_at_call 85; (with_reducible refine (spec_l2Good.calls k a1_0 a1_1 _ _ l1_2 false _ ?side1 ?side2 A5.out).mono ?_); (case side1 => exact mc133); (case side2 => exact HC1_2.out); rintro e w32 ⟨rfl, hb⟩; replace BK674 := Aside0.mk (blk_below mc192 hb); replace BK675 := Aside0.mk (blk_below mc193 hb); replace HB := Aside0.mk (below_step mc112 hb); (try clear hb); (try clear hk)))
  go_ret
  exact ⟨mc225, mc112⟩
 subst c6
 rw [if_pos rfl] at H
 by_cases c7 : a0_0 = a1_0
 rotate_left
 ·
  rw [if_neg c7] at H
  have c7b0 : (a0_0 == a1_0) = false := beq_eq_false_iff_ne.mpr c7
  have c7b1 : (a0_0 != a1_0) = true := bne_iff_ne.mpr c7
  obtain rfl := Option.some.inj H
  go_enter Try.func63, Try.ntmps63
  go_wp2_with (first | ((with_reducible refine gate_dst (N := 2) rfl ?_); refine box_event rfl (N := 2) rfl (cs := #[.int .i64 a0_0, .int .i64 a0_1, .slice A0_2 l0_2.length c0_2]) (t := 26) mc242 ?_; intro gb674 hg w17 hbox hb; have BK674 := Aside0.mk (hbox); have GW674 := Aside0.mk ((mc145 : w.heap.size ≤ gb674)); have GE674 := Aside0.mk ((mc145 : w.heap.size ≤ gb674)); replace HB := Aside0.mk (below_step mc177 hb); clear hb hbox hg) | ((with_reducible refine gate_dst (N := 3) rfl ?_); refine box_event rfl (N := 3) rfl (cs := #[.int .i64 a1_0, .int .i64 a1_1, .slice A1_2 l1_2.length c1_2]) (t := 26) mc242 ?_; intro gb675 hg w18 hbox hb; have BK675 := Aside0.mk (hbox); have GW675 := Aside0.mk ((mc103 : w.heap.size ≤ gb675)); have GE675 := Aside0.mk ((mc103 : w.heap.size ≤ gb675)); replace HB := Aside0.mk (below_step mc161 hb); have NB674_675 := Aside0.mk ((mc167 : gb674 ≠ gb675)); have NB675_674 := Aside0.mk ((mc168 : gb675 ≠ gb674)); replace BK674 := Aside0.mk (blk_below mc192 hb); clear hb hbox hg; have hnb19 := NB674_675.out; have hnc19 := NB675_674.out; have hcz20_0 : w18.cell? ⟨gb674, 0, none⟩ = some (.int .i64 a0_0) := bc_ BK674 0 rfl; have hcz20_1 : w18.cell? ⟨gb674, 1, none⟩ = some (.int .i64 a0_1) := bc_ BK674 1 rfl; have hcz20_2 : w18.cell? ⟨gb674, 2, none⟩ = some (.slice A0_2 l0_2.length c0_2) := bc_ BK674 2 rfl; have hfz20_0 := blk_frozen BK674.out 0; have hfz20_1 := blk_frozen BK674.out 1; have hfz20_2 := blk_frozen BK674.out 2) | ((with_reducible refine gate_callee (f := 85) rfl ?_); refine goesL_ (some 6) rfl rfl Try.func85 (by kernel_rfl) rfl #[.agg #[.int .i64 a0_0, .int .i64 a0_1, .slice A0_2 l0_2.length c0_2]] rfl mc173 ?_; (with_reducible refine (spec_l2Good.calls k a0_0 a0_1 _ _ l0_2 true _ ?side1 ?side2 A3.out).mono ?_); (case side1 => exact mc132); (case side2 => exact HC0_2.out); rintro e w21 ⟨rfl, hb⟩; refine ⟨_, rfl, ?_⟩; replace BK674 := Aside0.mk (blk_below mc192 hb); replace BK675 := Aside0.mk (blk_below mc193 hb); replace HB := Aside0.mk (below_step mc112 hb); (try clear hb); (try clear hk); have hcz22_0 : w21.cell? ⟨gb675, 0, none⟩ = some (.int .i64 a1_0) := bc_ BK675 0 rfl; have hcz22_1 : w21.cell? ⟨gb675, 1, none⟩ = some (.int .i64 a1_1) := bc_ BK675 1 rfl; have hcz22_2 : w21.cell? ⟨gb675, 2, none⟩ = some (.slice A1_2 l1_2.length c1_2) := bc_ BK675 2 rfl; have hfz22_0 := blk_frozen BK675.out 0; have hfz22_1 := blk_frozen BK675.out 1; have hfz22_2 := blk_frozen BK675.out 2) | (go_at_call 85; (with_reducible refine (spec_l2Good.calls k a1_0 a1_1 _ _ l1_2 true _ ?side1 ?side2 A5.out).mono ?_); (case side1 => exact mc133); (case side2 => exact HC1_2.out); rintro e w23 ⟨rfl, hb⟩; replace BK674 := Aside0.mk (blk_below mc192 hb); replace BK675 := Aside0.mk (blk_below mc193 hb); replace HB := Aside0.mk (below_step mc112 hb); (try clear hb); (try clear hk); have hcz24_0 : w23.cell? ⟨gb674, 0, none⟩ = some (.int .i64 a0_0) := bc_ BK674 0 rfl; have hcz24_1 : w23.cell? ⟨gb674, 1, none⟩ = some (.int .i64 a0_1) := bc_ BK674 1 rfl; have hcz24_2 : w23.cell? ⟨gb674, 2, none⟩ = some (.slice A0_2 l0_2.length c0_2) := bc_ BK674 2 rfl; have hfz24_0 := blk_frozen BK674.out 0; have hfz24_1 := blk_frozen BK674.out 1; have hfz24_2 := blk_frozen BK674.out 2; have hcz25_0 : w23.cell? ⟨gb675, 0, none⟩ = some (.int .i64 a1_0) := bc_ BK675 0 rfl; have hcz25_1 : w23.cell? ⟨gb675, 1, none⟩ = some (.int .i64 a1_1) := bc_ BK675 1 rfl; have hcz25_2 : w23.cell? ⟨gb675, 2, none⟩ = some (.slice A1_2 l1_2.length c1_2) := bc_ BK675 2 rfl; have hfz25_0 := blk_frozen BK675.out 0; have hfz25_1 := blk_frozen BK675.out 1; have hfz25_2 := blk_frozen BK675.out 2))
  go_ret
  exact ⟨mc225, mc112⟩
 rw [if_pos c7] at H
 have c7b0 : (a0_0 == a1_0) = true := beq_iff_eq.mpr c7
 have c7b1 : (a0_0 != a1_0) = false := bne_eq_false_iff_eq.mpr c7
 clear c7
 obtain rfl := Option.some.inj H
 go_enter Try.func63, Try.ntmps63
 go_wp2_with (first | ((with_reducible refine gate_dst (N := 2) rfl ?_); refine box_event rfl (N := 2) rfl (cs := #[.int .i64 a0_0, .int .i64 a0_1, .slice A0_2 l0_2.length c0_2]) (t := 26) mc242 ?_; intro gb674 hg w8 hbox hb; have BK674 := Aside0.mk (hbox); have GW674 := Aside0.mk ((mc145 : w.heap.size ≤ gb674)); have GE674 := Aside0.mk ((mc145 : w.heap.size ≤ gb674)); replace HB := Aside0.mk (below_step mc177 hb); clear hb hbox hg) | ((with_reducible refine gate_dst (N := 3) rfl ?_); refine box_event rfl (N := 3) rfl (cs := #[.int .i64 a1_0, .int .i64 a1_1, .slice A1_2 l1_2.length c1_2]) (t := 26) mc242 ?_; intro gb675 hg w9 hbox hb; have BK675 := Aside0.mk (hbox); have GW675 := Aside0.mk ((mc103 : w.heap.size ≤ gb675)); have GE675 := Aside0.mk ((mc103 : w.heap.size ≤ gb675)); replace HB := Aside0.mk (below_step mc161 hb); have NB674_675 := Aside0.mk ((mc167 : gb674 ≠ gb675)); have NB675_674 := Aside0.mk ((mc168 : gb675 ≠ gb674)); replace BK674 := Aside0.mk (blk_below mc192 hb); clear hb hbox hg; have hnb10 := NB674_675.out; have hnc10 := NB675_674.out; have hcz11_0 : w9.cell? ⟨gb674, 0, none⟩ = some (.int .i64 a0_0) := bc_ BK674 0 rfl; have hcz11_1 : w9.cell? ⟨gb674, 1, none⟩ = some (.int .i64 a0_1) := bc_ BK674 1 rfl; have hcz11_2 : w9.cell? ⟨gb674, 2, none⟩ = some (.slice A0_2 l0_2.length c0_2) := bc_ BK674 2 rfl; have hfz11_0 := blk_frozen BK674.out 0; have hfz11_1 := blk_frozen BK674.out 1; have hfz11_2 := blk_frozen BK674.out 2) | ((with_reducible refine gate_callee (f := 85) rfl ?_); refine goesL_ (some 6) rfl rfl Try.func85 (by kernel_rfl) rfl #[.agg #[.int .i64 a0_0, .int .i64 a0_1, .slice A0_2 l0_2.length c0_2]] rfl mc173 ?_; (with_reducible refine (spec_l2Good.calls k a0_0 a0_1 _ _ l0_2 true _ ?side1 ?side2 A3.out).mono ?_); (case side1 => exact mc132); (case side2 => exact HC0_2.out); rintro e w12 ⟨rfl, hb⟩; refine ⟨_, rfl, ?_⟩; replace BK674 := Aside0.mk (blk_below mc192 hb); replace BK675 := Aside0.mk (blk_below mc193 hb); replace HB := Aside0.mk (below_step mc112 hb); (try clear hb); (try clear hk); have hcz13_0 : w12.cell? ⟨gb675, 0, none⟩ = some (.int .i64 a1_0) := bc_ BK675 0 rfl; have hcz13_1 : w12.cell? ⟨gb675, 1, none⟩ = some (.int .i64 a1_1) := bc_ BK675 1 rfl; have hcz13_2 : w12.cell? ⟨gb675, 2, none⟩ = some (.slice A1_2 l1_2.length c1_2) := bc_ BK675 2 rfl; have hfz13_0 := blk_frozen BK675.out 0; have hfz13_1 := blk_frozen BK675.out 1; have hfz13_2 := blk_frozen BK675.out 2) | (go_at_call 85; (with_reducible refine (spec_l2Good.calls k a1_0 a1_1 _ _ l1_2 true _ ?side1 ?side2 A5.out).mono ?_); (case side1 => exact mc133); (case side2 => exact HC1_2.out); rintro e w14 ⟨rfl, hb⟩; replace BK674 := Aside0.mk (blk_below mc192 hb); replace BK675 := Aside0.mk (blk_below mc193 hb); replace HB := Aside0.mk (below_step mc112 hb); (try clear hb); (try clear hk); have hcz15_0 : w14.cell? ⟨gb674, 0, none⟩ = some (.int .i64 a0_0) := bc_ BK674 0 rfl; have hcz15_1 : w14.cell? ⟨gb674, 1, none⟩ = some (.int .i64 a0_1) := bc_ BK674 1 rfl; have hcz15_2 : w14.cell? ⟨gb674, 2, none⟩ = some (.slice A0_2 l0_2.length c0_2) := bc_ BK674 2 rfl; have hfz15_0 := blk_frozen BK674.out 0; have hfz15_1 := blk_frozen BK674.out 1; have hfz15_2 := blk_frozen BK674.out 2; have hcz16_0 : w14.cell? ⟨gb675, 0, none⟩ = some (.int .i64 a1_0) := bc_ BK675 0 rfl; have hcz16_1 : w14.cell? ⟨gb675, 1, none⟩ = some (.int .i64 a1_1) := bc_ BK675 1 rfl; have hcz16_2 : w14.cell? ⟨gb675, 2, none⟩ = some (.slice A1_2 l1_2.length c1_2) := bc_ BK675 2 rfl; have hfz16_0 := blk_frozen BK675.out 0; have hfz16_1 := blk_frozen BK675.out 1; have hfz16_2 := blk_frozen BK675.out 2))
 go_ret
 exact ⟨mc225, mc112⟩

/-! ### spec_CopyRegion: function 30 -/
mutual
def spec_CopyRegion.j0 : Nat → List Int → Bool → Int → Int → List Int → Int → Int → List Int → Option (Int × Int × List Int × Bool)
 | 0, _, _, _, _, _, _, _, _ => none
 | k + 1, x2, x19, x679000, x679001, x679002, x680000, x680001, x680002 => if x19 = true then (some (0, 0, ([] : List Int), false)) else ((spec_l2Own.f x679000 x679001 x679002).bind fun bt683 => (spec_CopyRegion.l0 k x2 0 x680000 x680001 x680002 bt683.1 bt683.2.1 bt683.2.2))
def spec_CopyRegion.l0 : Nat → List Int → Int → Int → Int → List Int → Int → Int → List Int → Option (Int × Int × List Int × Bool)
 | 0, _, _, _, _, _, _, _, _ => none
 | k + 1, x2, x9, x680000, x680001, x680002, x689000, x689001, x689002 => if x9 < (x2.length : Int) then (if 0 ≤ x9 then (if 0 ≤ (rd x2 x9) then (if (rd x2 x9) < (x680002.length : Int) then (if (rd x2 x9) < (x689002.length : Int) then (spec_CopyRegion.l0 k x2 (wrap64 (x9 + 1)) x680000 x680001 x680002 x689000 x689001 (x689002.set ((rd x2 x9) : Int).toNat (rd x680002 (rd x2 x9)))) else (none)) else (none)) else (none)) else (none)) else (some (x689000, x689001, x689002, true))
end
def spec_CopyRegion.f (k : Nat) (a0_0 : Int) (a0_1 : Int) (l0_2 : List Int) (a1_0 : Int) (a1_1 : Int) (l1_2 : List Int) (l2 : List Int) : Option (Int × Int × List Int × Bool) := (spec_l2Same.f k a0_0 a0_1 l0_2 a1_0 a1_1 l1_2).bind fun t681 => (if t681 = true then ((spec_l23Asked.f k a0_0 a0_1 l0_2 l2).bind fun t682 => (spec_CopyRegion.j0 k l2 (!t682) a0_0 a0_1 l0_2 a1_0 a1_1 l1_2)) else (spec_CopyRegion.j0 k l2 true a0_0 a0_1 l0_2 a1_0 a1_1 l1_2))
theorem spec_CopyRegion.mono_l : ∀ k, (∀ y0 y1 y2 y3 y4 y5 y6 y7, LeO (spec_CopyRegion.j0 k y0 y1 y2 y3 y4 y5 y6 y7) (spec_CopyRegion.j0 (k + 1) y0 y1 y2 y3 y4 y5 y6 y7)) ∧ (∀ y0 y1 y2 y3 y4 y5 y6 y7, LeO (spec_CopyRegion.l0 k y0 y1 y2 y3 y4 y5 y6 y7) (spec_CopyRegion.l0 (k + 1) y0 y1 y2 y3 y4 y5 y6 y7))
 | 0 => ⟨fun _ _ _ _ _ _ _ _ r h => by simp [spec_CopyRegion.j0] at h, fun _ _ _ _ _ _ _ _ r h => by simp [spec_CopyRegion.l0] at h⟩
 | k + 1 => by
  obtain ⟨ih0, ih1⟩ := spec_CopyRegion.mono_l k
  refine ⟨?_, ?_⟩
  ·
   intro y0 y1 y2 y3 y4 y5 y6 y7
   unfold spec_CopyRegion.j0
   repeat' first
   | (with_reducible exact ih0 _ _ _ _ _ _ _ _)
   | (with_reducible exact ih1 _ _ _ _ _ _ _ _)
   | (with_reducible exact spec_l23Asked.mono _ _ _ _ _)
   | (with_reducible exact spec_l2Same.mono _ _ _ _ _ _ _)
   | (with_reducible exact LeO.refl _)
   | (with_reducible exact LeO.none _)
   | (with_reducible refine LeO.ite ?_ ?_)
   | (with_reducible refine LeO.bind ?_ (fun _ => ?_))
   | exact ih0 _ _ _ _ _ _ _ _
   | exact ih1 _ _ _ _ _ _ _ _
   | exact spec_l23Asked.mono _ _ _ _ _
   | exact spec_l2Same.mono _ _ _ _ _ _ _
   | exact LeO.none _
   | refine LeO.ite ?_ ?_
   | refine LeO.bind ?_ (fun _ => ?_)
  ·
   intro y0 y1 y2 y3 y4 y5 y6 y7
   unfold spec_CopyRegion.l0
   repeat' first
   | (with_reducible exact ih0 _ _ _ _ _ _ _ _)
   | (with_reducible exact ih1 _ _ _ _ _ _ _ _)
   | (with_reducible exact spec_l23Asked.mono _ _ _ _ _)
   | (with_reducible exact spec_l2Same.mono _ _ _ _ _ _ _)
   | (with_reducible exact LeO.refl _)
   | (with_reducible exact LeO.none _)
   | (with_reducible refine LeO.ite ?_ ?_)
   | (with_reducible refine LeO.bind ?_ (fun _ => ?_))
   | exact ih0 _ _ _ _ _ _ _ _
   | exact ih1 _ _ _ _ _ _ _ _
   | exact spec_l23Asked.mono _ _ _ _ _
   | exact spec_l2Same.mono _ _ _ _ _ _ _
   | exact LeO.none _
   | refine LeO.ite ?_ ?_
   | refine LeO.bind ?_ (fun _ => ?_)
theorem spec_CopyRegion.mono : ∀ a0 a1 a2 a3 a4 a5 a6 k, LeO (spec_CopyRegion.f k a0 a1 a2 a3 a4 a5 a6) (spec_CopyRegion.f (k + 1) a0 a1 a2 a3 a4 a5 a6) := by
 intro a0 a1 a2 a3 a4 a5 a6 k
 obtain ⟨ih0, ih1⟩ := spec_CopyRegion.mono_l k
 unfold spec_CopyRegion.f
 repeat' first
  | (with_reducible exact ih0 _ _ _ _ _ _ _ _)
  | (with_reducible exact ih1 _ _ _ _ _ _ _ _)
  | (with_reducible exact spec_l23Asked.mono _ _ _ _ _)
  | (with_reducible exact spec_l2Same.mono _ _ _ _ _ _ _)
  | (with_reducible exact LeO.refl _)
  | (with_reducible exact LeO.none _)
  | (with_reducible refine LeO.ite ?_ ?_)
  | (with_reducible refine LeO.bind ?_ (fun _ => ?_))
  | exact ih0 _ _ _ _ _ _ _ _
  | exact ih1 _ _ _ _ _ _ _ _
  | exact spec_l23Asked.mono _ _ _ _ _
  | exact spec_l2Same.mono _ _ _ _ _ _ _
  | exact LeO.none _
  | refine LeO.ite ?_ ?_
  | refine LeO.bind ?_ (fun _ => ?_)
def spec_CopyRegion.T7 : Bool × List (List Nat × List Nat) := (true, [([], []), ([0], [0]), ([], []), ([], []), ([2, 3], [2, 3]), ([4], [4]), ([], []), ([6], [6]), ([], []), ([], []), ([8, 9], [8, 9]), ([10], [10]), ([7, 11], [7, 11]), ([12], [12]), ([1, 5, 0, 1, 2, 3, 4, 5, 6, 7, 8, 9, 10, 11, 12, 13], [1, 5]), ([14, 13, 0, 1, 2, 3, 4, 5, 6, 7, 8, 9, 10, 11, 12, 13], [13, 14])])
def spec_CopyRegion.B7 : List Nat := [0, 1, 0, 0, 12, 28, 0, 64, 0, 0, 768, 1792, 4032, 8128, 16383, 32767]
theorem spec_CopyRegion.tab7 : rtab .any (opsOf Try.f30 7) = spec_CopyRegion.T7 := by kernel_rfl
theorem spec_CopyRegion.bits7 : waitsOk spec_CopyRegion.T7.2 spec_CopyRegion.B7 = true := by kernel_rfl
set_option maxHeartbeats 8000000 in
set_option maxRecDepth 100000 in
theorem spec_CopyRegion.calls (k : Nat) (a0_0 : Int) (a0_1 : Int) (A0_2 : Option Addr) (c0_2 : Nat) (l0_2 : List Int) (a1_0 : Int) (a1_1 : Int) (A1_2 : Option Addr) (c1_2 : Nat) (l1_2 : List Int) (A2 : Option Addr) (c2 : Nat) (l2 : List Int) (r1 : Int) (r2 : Int) (r3 : List Int) (r4 : Bool) (w : World) (hr0_2 : Kd.C (Kd.int .i64) w A0_2 l0_2.length l0_2) (hc0_2 : l0_2.length ≤ c0_2) (hr1_2 : Kd.C (Kd.int .i64) w A1_2 l1_2.length l1_2) (hc1_2 : l1_2.length ≤ c1_2) (hr2 : Kd.C (Kd.int .i64) w A2 l2.length l2) (hc2 : l2.length ≤ c2) (h : spec_CopyRegion.f k a0_0 a0_1 l0_2 a1_0 a1_1 l1_2 l2 = some (r1, r2, r3, r4)) :
  Calls Try.prog 30 #[.agg #[.int .i64 a0_0, .int .i64 a0_1, .slice A0_2 l0_2.length c0_2], .agg #[.int .i64 a1_0, .int .i64 a1_1, .slice A1_2 l1_2.length c1_2], .slice A2 l2.length c2] w fun e w' => ∃ v2_ : Value, e = .returned (.tuple #[.agg #[.int .i64 r1, .int .i64 r2, v2_], .bool r4]) ∧ Kd.R (Kd.int .i64) 3 w' w.heap.size (fun _ => True) v2_ r3 ∧ Below w.heap.size w w' := by
 have hu26 := Try.underlying26
 have HR0_2 := Aside0.mk hr0_2
 have HC0_2 := Aside0.mk hc0_2
 clear hr0_2 hc0_2
 have HR1_2 := Aside0.mk hr1_2
 have HC1_2 := Aside0.mk hc1_2
 clear hr1_2 hc1_2
 have HR2 := Aside0.mk hr2
 have HC2 := Aside0.mk hc2
 clear hr2 hc2
 have HB := Aside0.mk (Below.refl w.heap.size w)
 have H : ((spec_l2Same.f k a0_0 a0_1 l0_2 a1_0 a1_1 l1_2).bind fun t681 => (if t681 = true then ((spec_l23Asked.f k a0_0 a0_1 l0_2 l2).bind fun t682 => (spec_CopyRegion.j0 k l2 (!t682) a0_0 a0_1 l0_2 a1_0 a1_1 l1_2)) else (spec_CopyRegion.j0 k l2 true a0_0 a0_1 l0_2 a1_0 a1_1 l1_2))) = some (r1, r2, r3, r4) := h
 clear h
 have HC4 := Aside0.mk H
 clear H
 go_enter Try.func30, Try.ntmps30
 go_upto_region 1 with (first | ((with_reducible refine gate_dst (N := 3) rfl ?_); refine box_event rfl (N := 3) rfl (cs := #[.int .i64 a0_0, .int .i64 a0_1, .slice A0_2 l0_2.length c0_2]) (t := 26) mc242 ?_; intro gb678 hg w5 hbox hb; have BK678 := Aside0.mk (hbox); have GW678 := Aside0.mk ((mc145 : w.heap.size ≤ gb678)); have GE678 := Aside0.mk ((mc145 : w.heap.size ≤ gb678)); replace HB := Aside0.mk (below_step mc177 hb); clear hb hbox hg) | ((with_reducible refine gate_dst (N := 4) rfl ?_); refine box_event rfl (N := 4) rfl (cs := #[.int .i64 a1_0, .int .i64 a1_1, .slice A1_2 l1_2.length c1_2]) (t := 26) mc242 ?_; intro gb679 hg w6 hbox hb; have BK679 := Aside0.mk (hbox); have GW679 := Aside0.mk ((mc104 : w.heap.size ≤ gb679)); have GE679 := Aside0.mk ((mc104 : w.heap.size ≤ gb679)); replace HB := Aside0.mk (below_step mc162 hb); have NB678_679 := Aside0.mk ((mc169 : gb678 ≠ gb679)); have NB679_678 := Aside0.mk ((mc170 : gb679 ≠ gb678)); replace BK678 := Aside0.mk (blk_below mc194 hb); clear hb hbox hg) | ((with_reducible refine gate_dst (N := 6) rfl ?_); refine box_event rfl (N := 6) rfl (cs := #[.int .i64 0, .int .i64 0, .slice none 0 0]) (t := 26) mc242 ?_; intro gb680 hg w7 hbox hb; have BK680 := Aside0.mk (hbox); have GW680 := Aside0.mk ((mc69 : w.heap.size ≤ gb680)); have GE680 := Aside0.mk ((mc69 : w.heap.size ≤ gb680)); replace HB := Aside0.mk (below_step mc113 hb); have NB678_680 := Aside0.mk ((mc169 : gb678 ≠ gb680)); have NB680_678 := Aside0.mk ((mc170 : gb680 ≠ gb678)); replace BK678 := Aside0.mk (blk_below mc194 hb); have NB679_680 := Aside0.mk ((by rw [hg]; exact Nat.ne_of_lt (blk_lt mc195) : gb679 ≠ gb680)); have NB680_679 := Aside0.mk ((by rw [hg]; exact Nat.ne_of_gt (blk_lt mc195) : gb680 ≠ gb679)); replace BK679 := Aside0.mk (blk_below mc195 hb); clear hb hbox hg))
 (try simp only [Act.put, List.setIfInBounds_toArray, List.set_cons_zero, List.set_cons_succ])
 go_cut [19] (fun v19 wc => ∃ (kq : Nat) (x19_3 : Bool), v19 = .bool x19_3 ∧ Aside0 (spec_CopyRegion.j0 kq l2 x19_3 a0_0 a0_1 l0_2 a1_0 a1_1 l1_2 = some (r1, r2, r3, r4)) ∧ Aside0 (kq ≤ k) ∧ Aside0 (wc.heap[gb678]? = some (.cells #[.int .i64 a0_0, .int .i64 a0_1, (.slice A0_2 l0_2.length c0_2)] 26 (0, 0))) ∧ Aside0 (wc.heap[gb679]? = some (.cells #[.int .i64 a1_0, .int .i64 a1_1, (.slice A1_2 l1_2.length c1_2)] 26 (0, 0))) ∧ Aside0 (wc.heap[gb680]? = some (.cells #[.int .i64 0, .int .i64 0, (.slice none 0 0)] 26 (0, 0))) ∧ Aside0 (Below w.heap.size w wc))
 case first =>
  have H := HC4.out
  clear HC4
  obtain ⟨t681, A80, H⟩ := oB_ H
  have A8 := Aside0.mk A80
  clear A80
  by_cases c9 : t681 = true
  rotate_left
  ·
   replace c9 := Bool.eq_false_iff.mpr c9
   subst c9
   rw [if_neg (show ¬ (false = true) by decide)] at H
   have H' := Aside0.mk H
   clear H
   have hnb19 := NB678_679.out
   have hnc19 := NB679_678.out
   have hnb20 := NB678_680.out
   have hnc20 := NB680_678.out
   have hcz21_0 : w7.cell? ⟨gb678, 0, none⟩ = some (.int .i64 a0_0) := bc_ BK678 0 rfl
   have hcz21_1 : w7.cell? ⟨gb678, 1, none⟩ = some (.int .i64 a0_1) := bc_ BK678 1 rfl
   have hcz21_2 : w7.cell? ⟨gb678, 2, none⟩ = some (.slice A0_2 l0_2.length c0_2) := bc_ BK678 2 rfl
   have hfz21_0 := blk_frozen BK678.out 0
   have hfz21_1 := blk_frozen BK678.out 1
   have hfz21_2 := blk_frozen BK678.out 2
   have hnb22 := NB679_680.out
   have hnc22 := NB680_679.out
   have hcz23_0 : w7.cell? ⟨gb679, 0, none⟩ = some (.int .i64 a1_0) := bc_ BK679 0 rfl
   have hcz23_1 : w7.cell? ⟨gb679, 1, none⟩ = some (.int .i64 a1_1) := bc_ BK679 1 rfl
   have hcz23_2 : w7.cell? ⟨gb679, 2, none⟩ = some (.slice A1_2 l1_2.length c1_2) := bc_ BK679 2 rfl
   have hfz23_0 := blk_frozen BK679.out 0
   have hfz23_1 := blk_frozen BK679.out 1
   have hfz23_2 := blk_frozen BK679.out 2
   go_wp2_with (first | ((with_reducible refine gate_callee (f := 63) rfl ?_); refine goesL_ (some 12) rfl rfl Try.func63 (by kernel_rfl) rfl #[.agg #[.int .i64 a0_0, .int .i64 a0_1, .slice A0_2 l0_2.length c0_2], .agg #[.int .i64 a1_0, .int .i64 a1_1, .slice A1_2 l1_2.length c1_2]] rfl mc173 ?_; (with_reducible refine (spec_l2Same.calls k a0_0 a0_1 _ _ l0_2 a1_0 a1_1 _ _ l1_2 false _ ?side1 ?side2 ?side3 ?side4 A8.out).mono ?_); (case side1 => exact mc132); (case side2 => exact HC0_2.out); (case side3 => exact mc133); (case side4 => exact HC1_2.out); rintro e w24 ⟨rfl, hb⟩; refine ⟨_, rfl, ?_⟩; replace BK678 := Aside0.mk (blk_below mc194 hb); replace BK679 := Aside0.mk (blk_below mc195 hb); replace BK680 := Aside0.mk (blk_below mc196 hb); replace HB := Aside0.mk (below_step mc73 hb); (try clear hb); (try clear hk)))
   go_meet
   case rel => exact ⟨_, (true), mc241, H', ⟨mc244⟩, ⟨mc194⟩, ⟨mc195⟩, ⟨mc196⟩, ⟨mc73⟩⟩
  subst c9
  rw [if_pos rfl] at H
  obtain ⟨t682, A100, H⟩ := oB_ H
  have A10 := Aside0.mk A100
  clear A100
  have H' := Aside0.mk H
  clear H
  have hnb11 := NB678_679.out
  have hnc11 := NB679_678.out
  have hnb12 := NB678_680.out
  have hnc12 := NB680_678.out
  have hcz13_0 : w7.cell? ⟨gb678, 0, none⟩ = some (.int .i64 a0_0) := bc_ BK678 0 rfl
  have hcz13_1 : w7.cell? ⟨gb678, 1, none⟩ = some (.int .i64 a0_1) := bc_ BK678 1 rfl
  have hcz13_2 : w7.cell? ⟨gb678, 2, none⟩ = some (.slice A0_2 l0_2.length c0_2) := bc_ BK678 2 rfl
  have hfz13_0 := blk_frozen BK678.out 0
  have hfz13_1 := blk_frozen BK678.out 1
  have hfz13_2 := blk_frozen BK678.out 2
  have hnb14 := NB679_680.out
  have hnc14 := NB680_679.out
  have hcz15_0 : w7.cell? ⟨gb679, 0, none⟩ = some (.int .i64 a1_0) := bc_ BK679 0 rfl
  have hcz15_1 : w7.cell? ⟨gb679, 1, none⟩ = some (.int .i64 a1_1) := bc_ BK679 1 rfl
  have hcz15_2 : w7.cell? ⟨gb679, 2, none⟩ = some (.slice A1_2 l1_2.length c1_2) := bc_ BK679 2 rfl
  have hfz15_0 := blk_frozen BK679.out 0
  have hfz15_1 := blk_frozen BK679.out 1
  have hfz15_2 := blk_frozen BK679.out 2
  go_wp2_with (first | ((with_reducible refine gate_callee (f := 63) rfl ?_); refine goesL_ (some 12) rfl rfl Try.func63 (by kernel_rfl) rfl #[.agg #[.int .i64 a0_0, .int .i64 a0_1, .slice A0_2 l0_2.length c0_2], .agg #[.int .i64 a1_0, .int .i64 a1_1, .slice A1_2 l1_2.length c1_2]] rfl mc173 ?_; (with_reducible refine (spec_l2Same.calls k a0_0 a0_1 _ _ l0_2 a1_0 a1_1 _ _ l1_2 true _ ?side1 ?side2 ?side3 ?side4 A8.out).mono ?_); (case side1 => exact mc132); (case side2 => exact HC0_2.out); (case side3 => exact mc133); (case side4 => exact HC1_2.out); rintro e w16 ⟨rfl, hb⟩; refine ⟨_, rfl, ?_⟩; replace BK678 := Aside0.mk (blk_below mc194 hb); replace BK679 := Aside0.mk (blk_below mc195 hb); replace BK680 := Aside0.mk (blk_below mc196 hb); replace HB := Aside0.mk (below_step mc73 hb); (try clear hb); (try clear hk); have hcz17_0 : w16.cell? ⟨gb678, 0, none⟩ = some (.int .i64 a0_0) := bc_ BK678 0 rfl; have hcz17_1 : w16.cell? ⟨gb678, 1, none⟩ = some (.int .i64 a0_1) := bc_ BK678 1 rfl; have hcz17_2 : w16.cell? ⟨gb678, 2, none⟩ = some (.slice A0_2 l0_2.length c0_2) := bc_ BK678 2 rfl; have hfz17_0 := blk_frozen BK678.out 0; have hfz17_1 := blk_frozen BK678.out 1; have hfz17_2 := blk_frozen BK678.out 2) | (go_at_call 55; (with_reducible refine (spec_l23Asked.calls k a0_0 a0_1 _ _ l0_2 _ _ l2 t682 _ ?side1 ?side2 ?side3 ?side4 A10.out).mono ?_); (case side1 => exact mc132); (case side2 => exact HC0_2.out); (case side3 => exact mc134); (case side4 => exact HC2.out); rintro e w18 ⟨rfl, hb⟩; replace BK678 := Aside0.mk (blk_below mc194 hb); replace BK679 := Aside0.mk (blk_below mc195 hb); replace BK680 := Aside0.mk (blk_below mc196 hb); replace HB := Aside0.mk (below_step mc73 hb); (try clear hb); (try clear hk)))
  go_meet
  case rel => exact ⟨_, (!t682), mc241, H', ⟨mc244⟩, ⟨mc194⟩, ⟨mc195⟩, ⟨mc196⟩, ⟨mc73⟩⟩
 case rest =>
  clear HC4
  try clear c1
  try clear c2
  try clear p2
  try clear c3
  try clear c6
  try clear c9
  try clear c11
  try clear c12
  try clear c14
  try clear c19
  try clear c20
  try clear c22
  try clear hcz13_0
  try clear hcz13_1
  try clear hcz13_2
  try clear hcz15_0
  try clear hcz15_1
  try clear hcz15_2
  try clear hcz17_0
  try clear hcz17_1
  try clear hcz17_2
  try clear hcz21_0
  try clear hcz21_1
  try clear hcz21_2
  try clear hcz23_0
  try clear hcz23_1
  try clear hcz23_2
  try clear hfz13_0
  try clear hfz13_1
  try clear hfz13_2
  try clear hfz15_0
  try clear hfz15_1
  try clear hfz15_2
  try clear hfz17_0
  try clear hfz17_1
  try clear hfz17_2
  try clear hfz21_0
  try clear hfz21_1
  try clear hfz21_2
  try clear hfz23_0
  try clear hfz23_1
  try clear hfz23_2
  obtain ⟨kq, x19_3, rfl, HA, HJ3, BK678, BK679, BK680, HB⟩ := hcut
  cases kq with
  | zero => exact absurd HA.out (by simp [spec_CopyRegion.j0])
  | succ kj3 =>
   have H := HA.out
   clear HA
   simp only [spec_CopyRegion.j0] at H
   by_cases c25 : x19_3 = true
   ·
    subst c25
    rw [if_pos rfl] at H
    simp only [Option.some.injEq, Prod.mk.injEq] at H
    obtain ⟨rfl, rfl, rfl, rfl⟩ := H
    have hnb26 := NB680_678.out
    have hnc26 := NB678_680.out
    have hnb27 := NB680_679.out
    have hnc27 := NB679_680.out
    have hcz28_0 : wc.cell? ⟨gb680, 0, none⟩ = some (.int .i64 0) := bc_ BK680 0 rfl
    have hcz28_1 : wc.cell? ⟨gb680, 1, none⟩ = some (.int .i64 0) := bc_ BK680 1 rfl
    have hcz28_2 : wc.cell? ⟨gb680, 2, none⟩ = some (.slice none 0 0) := bc_ BK680 2 rfl
    have hfz28_0 := blk_frozen BK680.out 0
    have hfz28_1 := blk_frozen BK680.out 1
    have hfz28_2 := blk_frozen BK680.out 2
    go_wp2
    refine bodyPost_ret (results_ct rfl _ _ gb680 26 #[.int .i64 0, .int .i64 0, .slice none 0 0] (0, 0) _ rfl (by (with_reducible repeat (first | refine blk_drewN ?_ _ | refine blk_drew ?_ | refine blk_alloc ?_ _)); refine blk_put (cs := #[.int .i64 0, .int .i64 0, .slice none 0 0]) ?_ 2 _ rfl; (with_reducible repeat (first | refine blk_drewN ?_ _ | refine blk_drew ?_ | refine blk_alloc ?_ _)); refine blk_put (cs := #[.int .i64 0, .int .i64 0, .slice none 0 0]) ?_ 1 _ rfl; (with_reducible repeat (first | refine blk_drewN ?_ _ | refine blk_drew ?_ | refine blk_alloc ?_ _)); refine blk_put (cs := #[.int .i64 0, .int .i64 0, .slice none 0 0]) ?_ 0 _ rfl; (with_reducible repeat (first | refine blk_drewN ?_ _ | refine blk_drew ?_ | refine blk_alloc ?_ _)); exact BK680.out) Try.underlying26 rfl (by kernel_rfl)) rfl ?_
    exact ⟨_, mc225, mc172, mc73⟩
   replace c25 := Bool.eq_false_iff.mpr c25
   subst c25
   rw [if_neg (show ¬ (false = true) by decide)] at H
   obtain ⟨⟨t683, t684, t685⟩, A290, H⟩ := oB_ H
   have A29 := Aside0.mk A290
   clear A290
   have H' := Aside0.mk H
   clear H
   have hnb30 := NB678_679.out
   have hnc30 := NB679_678.out
   have hnb31 := NB678_680.out
   have hnc31 := NB680_678.out
   have hcz32_0 : wc.cell? ⟨gb678, 0, none⟩ = some (.int .i64 a0_0) := bc_ BK678 0 rfl
   have hcz32_1 : wc.cell? ⟨gb678, 1, none⟩ = some (.int .i64 a0_1) := bc_ BK678 1 rfl
   have hcz32_2 : wc.cell? ⟨gb678, 2, none⟩ = some (.slice A0_2 l0_2.length c0_2) := bc_ BK678 2 rfl
   have hfz32_0 := blk_frozen BK678.out 0
   have hfz32_1 := blk_frozen BK678.out 1
   have hfz32_2 := blk_frozen BK678.out 2
   go_wp2_with (first | ((with_reducible refine gate_callee (f := 57) rfl ?_); refine goesL_ (some 22) rfl rfl Try.func57 (by kernel_rfl) rfl #[.agg #[.int .i64 a0_0, .int .i64 a0_1, .slice A0_2 l0_2.length c0_2]] rfl mc173 ?_; (with_reducible refine (spec_l2Own.calls a0_0 a0_1 _ _ l0_2 t683 t684 t685 _ ?side1 ?side2 A29.out).mono ?_); (case side1 => exact mc132); (case side2 => exact HC0_2.out); rintro e w33 ⟨v686, rfl, ho0, hb⟩; refine ⟨_, rfl, ?_⟩; have HO687 := Aside0.mk (Kd.R_lower ho0 (below_size mc73)); replace BK678 := Aside0.mk (blk_below mc194 hb); replace BK679 := Aside0.mk (blk_below mc195 hb); replace BK680 := Aside0.mk (blk_below mc196 hb); replace HB := Aside0.mk (below_step mc73 hb); (try clear hb); (try clear hk); (try clear ho0)) | ((with_reducible refine gate_dst (N := 8) rfl ?_); refine box_event rfl (N := 8) rfl (cs := #[.int .i64 0, .int .i64 0, .slice none 0 0]) (t := 26) mc242 ?_; intro gb688 hg w34 hbox hb; replace HO687 := Aside0.mk (Kd.R_below (by (with_reducible repeat (first | apply Kd.R_alloc | apply Kd.R_drewN | apply Kd.R_drew)); exact HO687.out) hb); have BK688 := Aside0.mk (hbox); have GW688 := Aside0.mk ((mc56 : w.heap.size ≤ gb688)); have GE688 := Aside0.mk ((mc56 : w.heap.size ≤ gb688)); replace HB := Aside0.mk (below_step mc73 hb); have NB678_688 := Aside0.mk ((mc169 : gb678 ≠ gb688)); have NB688_678 := Aside0.mk ((mc170 : gb688 ≠ gb678)); replace BK678 := Aside0.mk (blk_below mc194 hb); have NB679_688 := Aside0.mk ((by rw [hg]; exact Nat.ne_of_lt (blk_lt mc195) : gb679 ≠ gb688)); have NB688_679 := Aside0.mk ((by rw [hg]; exact Nat.ne_of_gt (blk_lt mc195) : gb688 ≠ gb679)); replace BK679 := Aside0.mk (blk_below mc195 hb); have NB680_688 := Aside0.mk ((by rw [hg]; exact Nat.ne_of_lt (blk_lt mc196) : gb680 ≠ gb688)); have NB688_680 := Aside0.mk ((by rw [hg]; exact Nat.ne_of_gt (blk_lt mc196) : gb688 ≠ gb680)); replace BK680 := Aside0.mk (blk_below mc196 hb); clear hb hbox hg; have hnb35 := NB688_678.out; have hnc35 := NB678_688.out; have hnb36 := NB688_679.out; have hnc36 := NB679_688.out; have hnb37 := NB688_680.out; have hnc37 := NB680_688.out; have hcz38_0 : w34.cell? ⟨gb688, 0, none⟩ = some (.int .i64 0) := bc_ BK688 0 rfl; have hcz38_1 : w34.cell? ⟨gb688, 1, none⟩ = some (.int .i64 0) := bc_ BK688 1 rfl; have hcz38_2 : w34.cell? ⟨gb688, 2, none⟩ = some (.slice none 0 0) := bc_ BK688 2 rfl; have hfz38_0 := blk_frozen BK688.out 0; have hfz38_1 := blk_frozen BK688.out 1; have hfz38_2 := blk_frozen BK688.out 2; obtain ⟨Ao39, co39, eo39⟩ := Kd.R_slice HO687.out; subst eo39))
   go_loopg [9] kj3 (fun kq v9 w' => ∃ (x9_2 : Int) (x689002_2 : List Int) (u689002 : Value), v9 = .int .i64 x9_2 ∧ Aside0 (spec_CopyRegion.l0 kq l2 x9_2 a1_0 a1_1 l1_2 t683 t684 x689002_2 = some (r1, r2, r3, r4)) ∧ Aside0 (kq ≤ kj3) ∧ Aside0 (Kd.R (Kd.int .i64) 3 w' w.heap.size (fun _ => True) u689002 x689002_2) ∧ Aside0 (w'.heap[gb678]? = some (.cells #[.int .i64 a0_0, .int .i64 a0_1, (.slice A0_2 l0_2.length c0_2)] 26 (0, 0))) ∧ Aside0 (w'.heap[gb679]? = some (.cells #[.int .i64 a1_0, .int .i64 a1_1, (.slice A1_2 l1_2.length c1_2)] 26 (0, 0))) ∧ Aside0 (w'.heap[gb680]? = some (.cells #[.int .i64 0, .int .i64 0, (.slice none 0 0)] 26 (0, 0))) ∧ Aside0 (w'.heap[gb688]? = some (.cells #[.int .i64 t683, .int .i64 t684, u689002] 26 (0, 0))) ∧ Aside0 (Below w.heap.size w w'))
   case atStart => exact ⟨(0), (t685), (.slice Ao39 t685.length co39), mc241, H', ⟨Nat.le_refl _⟩, ⟨by (with_reducible repeat (first | apply Kd.R_alloc | apply Kd.R_drewN | apply Kd.R_drew)); exact Kd.R_mono (Kd.R_far (p := ⟨gb688, 2, none⟩) (Kd.R_far (p := ⟨gb688, 1, none⟩) (Kd.R_far (p := ⟨gb688, 0, none⟩) (Kd.R_types HO687.out BK688.out (by decide)) (fun _ hk => hk.2) (.int .i64 t683)) (fun _ hk => hk.2) (.int .i64 t684)) (fun _ hk => hk.2) (.slice Ao39 t685.length co39)) (fun _ hk => trivial)⟩, ⟨by (with_reducible repeat (first | refine blk_drewN ?_ _ | refine blk_drew ?_ | refine blk_alloc ?_ _)); refine blk_far ?_ NB678_688.out _; (with_reducible repeat (first | refine blk_drewN ?_ _ | refine blk_drew ?_ | refine blk_alloc ?_ _)); refine blk_far ?_ NB678_688.out _; (with_reducible repeat (first | refine blk_drewN ?_ _ | refine blk_drew ?_ | refine blk_alloc ?_ _)); refine blk_far ?_ NB678_688.out _; (with_reducible repeat (first | refine blk_drewN ?_ _ | refine blk_drew ?_ | refine blk_alloc ?_ _)); exact BK678.out⟩, ⟨by (with_reducible repeat (first | refine blk_drewN ?_ _ | refine blk_drew ?_ | refine blk_alloc ?_ _)); refine blk_far ?_ NB679_688.out _; (with_reducible repeat (first | refine blk_drewN ?_ _ | refine blk_drew ?_ | refine blk_alloc ?_ _)); refine blk_far ?_ NB679_688.out _; (with_reducible repeat (first | refine blk_drewN ?_ _ | refine blk_drew ?_ | refine blk_alloc ?_ _)); refine blk_far ?_ NB679_688.out _; (with_reducible repeat (first | refine blk_drewN ?_ _ | refine blk_drew ?_ | refine blk_alloc ?_ _)); exact BK679.out⟩, ⟨by (with_reducible repeat (first | refine blk_drewN ?_ _ | refine blk_drew ?_ | refine blk_alloc ?_ _)); refine blk_far ?_ NB680_688.out _; (with_reducible repeat (first | refine blk_drewN ?_ _ | refine blk_drew ?_ | refine blk_alloc ?_ _)); refine blk_far ?_ NB680_688.out _; (with_reducible repeat (first | refine blk_drewN ?_ _ | refine blk_drew ?_ | refine blk_alloc ?_ _)); refine blk_far ?_ NB680_688.out _; (with_reducible repeat (first | refine blk_drewN ?_ _ | refine blk_drew ?_ | refine blk_alloc ?_ _)); exact BK680.out⟩, ⟨by (with_reducible repeat (first | refine blk_drewN ?_ _ | refine blk_drew ?_ | refine blk_alloc ?_ _)); refine blk_put (cs := #[.int .i64 t683, .int .i64 t684, .slice none 0 0]) ?_ 2 _ rfl; (with_reducible repeat (first | refine blk_drewN ?_ _ | refine blk_drew ?_ | refine blk_alloc ?_ _)); refine blk_put (cs := #[.int .i64 t683, .int .i64 0, .slice none 0 0]) ?_ 1 _ rfl; (with_reducible repeat (first | refine blk_drewN ?_ _ | refine blk_drew ?_ | refine blk_alloc ?_ _)); refine blk_put (cs := #[.int .i64 0, .int .i64 0, .slice none 0 0]) ?_ 0 _ rfl; (with_reducible repeat (first | refine blk_drewN ?_ _ | refine blk_drew ?_ | refine blk_alloc ?_ _)); exact BK688.out⟩, ⟨mc59⟩⟩
   case round =>
    clear H'
    try clear c1
    try clear c2
    try clear p2
    try clear c3
    try clear c5
    try clear c6
    try clear c9
    try clear c11
    try clear c12
    try clear c14
    try clear c19
    try clear c20
    try clear c22
    try clear c25
    try clear c26
    try clear c27
    try clear c30
    try clear c31
    try clear c35
    try clear c36
    try clear c37
    try clear hcz13_0
    try clear hcz13_1
    try clear hcz13_2
    try clear hcz15_0
    try clear hcz15_1
    try clear hcz15_2
    try clear hcz17_0
    try clear hcz17_1
    try clear hcz17_2
    try clear hcz21_0
    try clear hcz21_1
    try clear hcz21_2
    try clear hcz23_0
    try clear hcz23_1
    try clear hcz23_2
    try clear hcz28_0
    try clear hcz28_1
    try clear hcz28_2
    try clear hcz32_0
    try clear hcz32_1
    try clear hcz32_2
    try clear hcz38_0
    try clear hcz38_1
    try clear hcz38_2
    try clear hfz13_0
    try clear hfz13_1
    try clear hfz13_2
    try clear hfz15_0
    try clear hfz15_1
    try clear hfz15_2
    try clear hfz17_0
    try clear hfz17_1
    try clear hfz17_2
    try clear hfz21_0
    try clear hfz21_1
    try clear hfz21_2
    try clear hfz23_0
    try clear hfz23_1
    try clear hfz23_2
    try clear hfz28_0
    try clear hfz28_1
    try clear hfz28_2
    try clear hfz32_0
    try clear hfz32_1
    try clear hfz32_2
    try clear hfz38_0
    try clear hfz38_1
    try clear hfz38_2
    try clear p2
    obtain ⟨x9_2, x689002_2, u689002, rfl, HA, HK2, HO_689002, BK678, BK679, BK680, BK688, HB⟩ := hrel
    cases gk with
    | zero => exact absurd HA.out (by simp [spec_CopyRegion.l0])
    | succ k2 =>
     have H := HA.out
     clear HA
     simp only [spec_CopyRegion.l0] at H
     by_cases c40 : x9_2 < (l2.length : Int)
     rotate_left
     ·
      rw [if_neg c40] at H
      have c40b0 : decide (x9_2 < (l2.length : Int)) = false := decide_eq_false c40
      clear c40
      simp only [Option.some.injEq, Prod.mk.injEq] at H
      obtain ⟨rfl, rfl, rfl, rfl⟩ := H
      have hnb48 := NB688_678.out
      have hnc48 := NB678_688.out
      have hnb49 := NB688_679.out
      have hnc49 := NB679_688.out
      have hnb50 := NB688_680.out
      have hnc50 := NB680_688.out
      have hcz51_0 : wr.cell? ⟨gb688, 0, none⟩ = some (.int .i64 t683) := bc_ BK688 0 rfl
      have hcz51_1 : wr.cell? ⟨gb688, 1, none⟩ = some (.int .i64 t684) := bc_ BK688 1 rfl
      have hcz51_2 : wr.cell? ⟨gb688, 2, none⟩ = some (u689002) := bc_ BK688 2 rfl
      have hfz51_0 := blk_frozen BK688.out 0
      have hfz51_1 := blk_frozen BK688.out 1
      have hfz51_2 := blk_frozen BK688.out 2
      have hnb52 := NB680_678.out
      have hnc52 := NB678_680.out
      have hnb53 := NB680_679.out
      have hnc53 := NB679_680.out
      have hcz54_0 : wr.cell? ⟨gb680, 0, none⟩ = some (.int .i64 0) := bc_ BK680 0 rfl
      have hcz54_1 : wr.cell? ⟨gb680, 1, none⟩ = some (.int .i64 0) := bc_ BK680 1 rfl
      have hcz54_2 : wr.cell? ⟨gb680, 2, none⟩ = some (.slice none 0 0) := bc_ BK680 2 rfl
      have hfz54_0 := blk_frozen BK680.out 0
      have hfz54_1 := blk_frozen BK680.out 1
      have hfz54_2 := blk_frozen BK680.out 2
      obtain ⟨Ao55, co55, eo55⟩ := Kd.R_slice HO_689002.out
      subst eo55
      go_wp2
      refine bodyPost_ret (results_ct rfl _ _ gb680 26 #[.int .i64 t683, .int .i64 t684, .slice Ao55 x689002_2.length co55] (0, 0) _ rfl (by (with_reducible repeat (first | refine blk_drewN ?_ _ | refine blk_drew ?_ | refine blk_alloc ?_ _)); refine blk_put (cs := #[.int .i64 t683, .int .i64 t684, .slice none 0 0]) ?_ 2 _ rfl; (with_reducible repeat (first | refine blk_drewN ?_ _ | refine blk_drew ?_ | refine blk_alloc ?_ _)); refine blk_put (cs := #[.int .i64 t683, .int .i64 0, .slice none 0 0]) ?_ 1 _ rfl; (with_reducible repeat (first | refine blk_drewN ?_ _ | refine blk_drew ?_ | refine blk_alloc ?_ _)); refine blk_put (cs := #[.int .i64 0, .int .i64 0, .slice none 0 0]) ?_ 0 _ rfl; (with_reducible repeat (first | refine blk_drewN ?_ _ | refine blk_drew ?_ | refine blk_alloc ?_ _)); exact BK680.out) Try.underlying26 rfl (by kernel_rfl)) rfl ?_
      exact ⟨_, mc225, by (with_reducible repeat (first | apply Kd.R_alloc | apply Kd.R_drewN | apply Kd.R_drew)); exact Kd.R_mono (Kd.R_far (p := ⟨gb680, 2, none⟩) (Kd.R_far (p := ⟨gb680, 1, none⟩) (Kd.R_far (p := ⟨gb680, 0, none⟩) (Kd.R_types HO_689002.out BK680.out (by decide)) (fun _ hk => hk.2) (.int .i64 t683)) (fun _ hk => hk.2) (.int .i64 t684)) (fun _ hk => hk.2) (.slice Ao55 x689002_2.length co55)) (fun _ hk => trivial), mc59⟩
     rw [if_pos c40] at H
     have c40b0 : decide (x9_2 < (l2.length : Int)) = true := decide_eq_true c40
     clear c40
     by_cases c41 : 0 ≤ x9_2
     rotate_left
     ·
      rw [if_neg c41] at H
      exact absurd H (by simp)
     rw [if_pos c41] at H
     have c41b0 : decide (0 ≤ x9_2) = true := decide_eq_true c41
     clear c41
     by_cases c42 : 0 ≤ (rd l2 x9_2)
     rotate_left
     ·
      rw [if_neg c42] at H
      exact absurd H (by simp)
     rw [if_pos c42] at H
     have c42b0 : decide (0 ≤ (rd l2 x9_2)) = true := decide_eq_true c42
     clear c42
     by_cases c43 : (rd l2 x9_2) < (l1_2.length : Int)
     rotate_left
     ·
      rw [if_neg c43] at H
      exact absurd H (by simp)
     rw [if_pos c43] at H
     have c43b0 : decide ((rd l2 x9_2) < (l1_2.length : Int)) = true := decide_eq_true c43
     clear c43
     by_cases c44 : (rd l2 x9_2) < (x689002_2.length : Int)
     rotate_left
     ·
      rw [if_neg c44] at H
      exact absurd H (by simp)
     rw [if_pos c44] at H
     have c44b0 : decide ((rd l2 x9_2) < (x689002_2.length : Int)) = true := decide_eq_true c44
     clear c44
     obtain ⟨y692, hy692⟩ : ∃ y_ : List Int, y_ = (x689002_2.set ((rd l2 x9_2) : Int).toNat (rd l1_2 (rd l2 x9_2))) := ⟨_, rfl⟩
     replace H : (spec_CopyRegion.l0 k2 l2 (wrap64 (x9_2 + 1)) a1_0 a1_1 l1_2 t683 t684 y692) = some (r1, r2, r3, r4) := by first | (rw [hy692]; with_reducible exact H) | (have H2_ := (Option.bind_some _ _).symm.trans H; rw [hy692]; with_reducible exact H2_) | (have H2_ := (Option.bind_some _ _).symm.trans H; with_reducible exact H2_) | with_reducible exact H | (rw [hy692]; exact H) | exact H
     have Ny692 := Aside0.mk hy692
     clear hy692
     have H' := Aside0.mk H
     clear H
     try go_wp2
     replace HO_689002 := Aside0.mk (Kd.R_drew HO_689002.out)
     replace BK678 := Aside0.mk (blk_drew BK678.out)
     replace BK679 := Aside0.mk (blk_drew BK679.out)
     replace BK680 := Aside0.mk (blk_drew BK680.out)
     replace BK688 := Aside0.mk (blk_drew BK688.out)
     replace HB := Aside0.mk (below_drew1 HB.out)
     have p689 : 0 ≤ (x9_2 : Int) := of_decide_eq_true mc230
     have q689 : x9_2 < (l2.length : Int) := of_decide_eq_true mc230
     obtain ⟨ad689, e689, hx689_0⟩ := Kd.at_int HR2.out x9_2 p689 q689
     have hw689_0 := hx689_0
     cases e689
     replace hx689_0 := (HB.out.cell (World.block_lt_of_cell? w _ hx689_0)).trans hx689_0
     replace p689 := eq_true p689
     replace q689 := eq_true q689
     have p690 : 0 ≤ (x9_2 : Int) := of_decide_eq_true mc230
     have q690 : x9_2 < (l2.length : Int) := of_decide_eq_true mc230
     obtain ⟨ad690, e690, hx690_0⟩ := Kd.at_int HR2.out x9_2 p690 q690
     have hw690_0 := hx690_0
     obtain rfl : ad689 = ad690 := (by injection e690)
     replace hx690_0 := (HB.out.cell (World.block_lt_of_cell? w _ hx690_0)).trans hx690_0
     replace p690 := eq_true p690
     replace q690 := eq_true q690
     have p691 : 0 ≤ ((rd l2 x9_2) : Int) := of_decide_eq_true mc230
     have q691 : (rd l2 x9_2) < (l1_2.length : Int) := of_decide_eq_true mc230
     obtain ⟨ad691, e691, hx691_0⟩ := Kd.at_int HR1_2.out (rd l2 x9_2) p691 q691
     have hw691_0 := hx691_0
     cases e691
     replace hx691_0 := (HB.out.cell (World.block_lt_of_cell? w _ hx691_0)).trans hx691_0
     replace p691 := eq_true p691
     replace q691 := eq_true q691
     have p45 : 0 ≤ ((rd l2 x9_2) : Int) := of_decide_eq_true mc230
     have q45 : ((rd l2 x9_2) : Int) < ((x689002_2.length : Int) : Int) := of_decide_eq_true mc230
     obtain ⟨go45, co45, eo45, gb45, gl45, cl45, HG45⟩ := Kd.R_form HO_689002.out (by omega)
     (first | cases eo45 | (injection eo45 with ea_ en_ ec_; (first | subst ea_ | (injection ea_ with ea_; subst ea_)); subst ec_; clear en_))
     have GB45 := Aside0.mk gb45
     have GG45 := Aside0.mk HG45
     clear gb45 gl45 HG45
     obtain ⟨hx45_0, hf45_0⟩ := Kd.R_celln 0 HO_689002.out ((rd l2 x9_2) : Int) p45 q45
     replace p45 := eq_true p45
     replace q45 := eq_true q45
     have HP47 := Kd.R_putn HO_689002.out ((rd l2 x9_2) : Int) (rd l1_2 (rd l2 x9_2))
     rw [← Ny692.out] at HP47
     have HQ47 := Aside0.mk HP47
     clear HP47
     refine start_ (n := 16) (S := fun w' => w'.cell? ⟨gb688, 0, none⟩ = some (.int .i64 t683) ∧ w'.cell? ⟨gb688, 1, none⟩ = some (.int .i64 t684) ∧ w'.cell? ⟨gb688, 2, none⟩ = some (.slice (some ⟨go45, 0, none⟩) x689002_2.length co45) ∧ w'.cell? ⟨gb679, 0, none⟩ = some (.int .i64 a1_0) ∧ w'.cell? ⟨gb679, 1, none⟩ = some (.int .i64 a1_1) ∧ w'.cell? ⟨gb679, 2, none⟩ = some (.slice (some ad691) l1_2.length c1_2) ∧ w'.cell? (ad689.add (x9_2).toNat) = some (.int .i64 (rd l2 x9_2)) ∧ w'.cell? (ad689.add (x9_2).toNat) = some (.int .i64 (rd l2 x9_2)) ∧ w'.cell? (ad691.add ((rd l2 x9_2)).toNat) = some (.int .i64 (rd l1_2 (rd l2 x9_2)))) (ds := [15]) #[false, false, false, false, false, false, false, false, false, false, false, false, false, false, false, false] (by kernel_rfl) rfl rfl ⟨bc_ BK688 0 rfl, bc_ BK688 1 rfl, bc_ BK688 2 rfl, bc_ BK679 0 rfl, bc_ BK679 1 rfl, bc_ BK679 2 rfl, ((HB.out.cell (World.block_lt_of_cell? w _ hw689_0)).trans hw689_0), ((HB.out.cell (World.block_lt_of_cell? w _ hw690_0)).trans hw690_0), ((HB.out.cell (World.block_lt_of_cell? w _ hw691_0)).trans hw691_0)⟩ (fun hHeld => ?_); refine with_tabW spec_CopyRegion.tab7 spec_CopyRegion.bits7 (fun HT_ HW_ => ?_)
     generalize wr.drew = w46 at HO_689002 BK678 BK679 BK680 BK688 HB GG45 HQ47 hf45_0 hx45_0 hx689_0 hx690_0 hx691_0 hHeld ⊢
     refine pure_ (i := 0) (N := some 29) #[true, false, false, false, false, false, false, false, false, false, false, false, false, false, false, false] rfl rfl (any_of HT_.out (by kernel_rfl)) (fun _ _ _ h => h) (Or.inl ⟨by rfl, mc243⟩) mc208 ?_
     refine pure_ (i := 2) (N := some 31) #[true, false, true, false, false, false, false, false, false, false, false, false, false, false, false, false] rfl rfl (any_of HT_.out (by kernel_rfl)) (fun _ _ _ h => h) (Or.inl ⟨by rfl, mc243⟩) mc208 ?_
     refine pure_ (i := 3) (N := some 32) #[true, false, true, true, false, false, false, false, false, false, false, false, false, false, false, false] rfl rfl (any_of HT_.out (by kernel_rfl)) (fun _ _ _ h => h) (Or.inl ⟨by rfl, mc243⟩) mc208 ?_
     refine pure_ (i := 4) (N := some 33) #[true, false, true, true, true, false, false, false, false, false, false, false, false, false, false, false] rfl rfl (any_of HT_.out (by kernel_rfl)) (fun _ _ _ h => h) (Or.inl ⟨by rfl, mc243⟩) mc208 ?_
     refine pure_ (i := 6) (N := some 35) #[true, false, true, true, true, false, true, false, false, false, false, false, false, false, false, false] rfl rfl (any_of HT_.out (by kernel_rfl)) (fun _ _ _ h => h) (Or.inl ⟨by rfl, mc243⟩) mc208 ?_
     refine pure_ (i := 8) (N := some 37) #[true, false, true, true, true, false, true, false, true, false, false, false, false, false, false, false] rfl rfl (any_of HT_.out (by kernel_rfl)) (fun _ _ _ h => h) (Or.inl ⟨by rfl, mc243⟩) mc208 ?_
     refine pure_ (i := 9) (N := some 38) #[true, false, true, true, true, false, true, false, true, true, false, false, false, false, false, false] rfl rfl (any_of HT_.out (by kernel_rfl)) (fun _ _ _ h => h) (Or.inl ⟨by rfl, mc243⟩) mc208 ?_
     refine pure_ (i := 10) (N := some 39) #[true, false, true, true, true, false, true, false, true, true, true, false, false, false, false, false] rfl rfl (any_of HT_.out (by kernel_rfl)) (fun _ _ _ h => h) (Or.inl ⟨by rfl, mc243⟩) mc208 ?_
     refine take_ (i := 1) (N := some 30) #[true, true, true, true, true, false, true, false, true, true, true, false, false, false, false, false] rfl rfl (take_ofW HT_.out HW_.out (by kernel_rfl)) (fun _ _ _ h => h) (Or.inl ⟨by rfl, mc226⟩) hHeld mc208 ?_
     refine take_ (i := 5) (N := some 34) #[true, true, true, true, true, true, true, false, true, true, true, false, false, false, false, false] rfl rfl (take_ofW HT_.out HW_.out (by kernel_rfl)) (fun _ _ _ h => h) (Or.inl ⟨by rfl, mc226⟩) hHeld mc208 ?_
     refine take_ (i := 7) (N := some 36) #[true, true, true, true, true, true, true, true, true, true, true, false, false, false, false, false] rfl rfl (take_ofW HT_.out HW_.out (by kernel_rfl)) (fun _ _ _ h => h) (Or.inl ⟨by rfl, mc226⟩) hHeld mc208 ?_
     refine take_ (i := 11) (N := some 40) #[true, true, true, true, true, true, true, true, true, true, true, true, false, false, false, false] rfl rfl (take_ofW HT_.out HW_.out (by kernel_rfl)) (fun _ _ _ h => h) (Or.inl ⟨by rfl, mc226⟩) hHeld mc208 ?_
     refine pure_ (i := 12) (N := some 41) #[true, true, true, true, true, true, true, true, true, true, true, true, true, false, false, false] rfl rfl (any_of HT_.out (by kernel_rfl)) (fun _ _ _ h => h) (Or.inl ⟨by rfl, mc243⟩) mc208 ?_
     refine take_ (i := 13) (N := some 42) #[true, true, true, true, true, true, true, true, true, true, true, true, true, true, false, false] rfl rfl (take_ofW HT_.out HW_.out (by kernel_rfl)) (fun _ _ _ h => h) (Or.inl ⟨by rfl, mc226⟩) hHeld mc208 ?_
     refine pure_ (i := 14) (N := some 43) #[true, true, true, true, true, true, true, true, true, true, true, true, true, true, true, false] rfl rfl (any_of HT_.out (by kernel_rfl)) (fun _ _ _ h => h) (Or.inl ⟨by rfl, mc243⟩) mc208 ?_
     refine last_ (i := 15) (N := none) #[true, true, true, true, true, true, true, true, true, true, true, true, true, true, true, true] rfl rfl (one_of HT_.out (by kernel_rfl)) (by decide) (fun K hK => ?_)
     refine skip_ (w1 := ?_) (by rfl) rfl ?_ ?_
     rotate_left
     ·
      go_simp
      rfl
     refine hK.out _ _ ?_
     clear hK K
     refine done_ (done_of HT_.out (by kernel_rfl)) ?_
     try go_wp2
     go_roundg k2
     case measure => have := HJ3.out; have := HK2.out; omega
     case rel => exact ⟨(wrap64 (x9_2 + 1)), (y692), (.slice (some ⟨go45, 0, none⟩) x689002_2.length co45), mc241, H', ⟨by have := HJ3.out; have := HK2.out; omega⟩, ⟨by (with_reducible repeat (first | apply Kd.R_alloc | apply Kd.R_drewN | apply Kd.R_drew)); exact HQ47.out⟩, ⟨by (with_reducible repeat (first | refine blk_drewN ?_ _ | refine blk_drew ?_ | refine blk_alloc ?_ _)); refine blk_far ?_ (by have h_ := Kd.R_ne HO_689002.out BK678.out (by decide); intro e_; exact h_ (by rw [e_]; rfl)) _; (with_reducible repeat (first | refine blk_drewN ?_ _ | refine blk_drew ?_ | refine blk_alloc ?_ _)); exact BK678.out⟩, ⟨by (with_reducible repeat (first | refine blk_drewN ?_ _ | refine blk_drew ?_ | refine blk_alloc ?_ _)); refine blk_far ?_ (by have h_ := Kd.R_ne HO_689002.out BK679.out (by decide); intro e_; exact h_ (by rw [e_]; rfl)) _; (with_reducible repeat (first | refine blk_drewN ?_ _ | refine blk_drew ?_ | refine blk_alloc ?_ _)); exact BK679.out⟩, ⟨by (with_reducible repeat (first | refine blk_drewN ?_ _ | refine blk_drew ?_ | refine blk_alloc ?_ _)); refine blk_far ?_ (by have h_ := Kd.R_ne HO_689002.out BK680.out (by decide); intro e_; exact h_ (by rw [e_]; rfl)) _; (with_reducible repeat (first | refine blk_drewN ?_ _ | refine blk_drew ?_ | refine blk_alloc ?_ _)); exact BK680.out⟩, ⟨by (with_reducible repeat (first | refine blk_drewN ?_ _ | refine blk_drew ?_ | refine blk_alloc ?_ _)); refine blk_far ?_ (by have h_ := Kd.R_ne HO_689002.out BK688.out (by decide); intro e_; exact h_ (by rw [e_]; rfl)) _; (with_reducible repeat (first | refine blk_drewN ?_ _ | refine blk_drew ?_ | refine blk_alloc ?_ _)); exact BK688.out⟩, ⟨by repeat (first | (with_reducible first | exact HB.out | apply below_alloc | apply pw_below_drewN | apply below_drew1 | refine below_set ?_ GB45.out | refine below_set ?_ GE678.out | refine below_set ?_ GE679.out | refine below_set ?_ GE680.out | refine below_set ?_ GE688.out) | exact HB.out)⟩⟩

end Go.Proofs.Ytdmkbfjipgaloaa.P
