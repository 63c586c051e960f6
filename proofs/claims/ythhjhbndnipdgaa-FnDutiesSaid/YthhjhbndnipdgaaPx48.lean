-- Made by pp.py of this session out of the kit's print and of contracts proved by hand; Lean checks it.
import Derived.Test.YthhjhbndnipdgaaPx0
import Derived.Test.YthhjhbndnipdgaaPx8
import Derived.Test.YthhjhbndnipdgaaPx17
import Derived.Test.YthhjhbndnipdgaaPx20
import Derived.Test.YthhjhbndnipdgaaPx21
import Derived.Test.YthhjhbndnipdgaaPx22
import Derived.Test.YthhjhbndnipdgaaPx24
import Derived.Test.YthhjhbndnipdgaaPx26
import Derived.Test.YthhjhbndnipdgaaPx31
import Derived.Test.YthhjhbndnipdgaaPx33
import Derived.Test.YthhjhbndnipdgaaPx47
namespace Go.Proofs.Ythhjhbndnipdgaa.P
open Go.RowKit Go.Proofs.YthhjhbndnipdgaaW.PrintWords Go.Proofs.YthhjhbndnipdgaaW.PrintLast Go.Proofs.YthhjhbndnipdgaaW.PrintMore
attribute [local go_sem] max2_int min2_int max_two min_two max_three min_three max_four min_four   -- for this text's walks alone
set_option linter.unusedVariables false
set_option linter.unusedSimpArgs false

/-! ### laws_FnDuties: function 12 -/
mutual
def laws_FnDuties.j0 : Nat → List Int → List (S44) → List (S44) → Bool → Bool → Int → Int → Int → Option (Bool)
 | 0, _, _, _, _, _, _, _, _ => none
 | k + 1, x0, x3, x5, x6, x61, x825000, x825001, x825002 => if x61 = true then (some false) else (if x6 = true then ((impl_DutyHours.f k x3 x825000).bind fun bt834 => ((impl_DutyHours.f k x5 x825000).bind fun bt836 => (if bt834.2 = true then (if bt836.2 = true then (if bt836.1 = (wrap64 ((wrap64 (bt834.1 + x825002)) - x825001)) then ((impl_IsValidPlan.f k x5).bind fun t838 => (laws_FnDuties.j1 k x0 x5 (!t838) x825000 x825001 x825002)) else (laws_FnDuties.j1 k x0 x5 true x825000 x825001 x825002)) else (laws_FnDuties.j1 k x0 x5 true x825000 x825001 x825002)) else (laws_FnDuties.j1 k x0 x5 true x825000 x825001 x825002)))) else (laws_FnDuties.j3 k x0))
def laws_FnDuties.j3 : Nat → List Int → Option (Bool)
 | 0, _ => none
 | k + 1, x0 => (spec_DrawNextFree.f k x0).bind fun bt844 => ((impl_NextFree.f k bt844.1 bt844.2.1 bt844.2.2.1 bt844.2.2.2).bind fun bt850 => ((spec_NextFree.f k bt844.1 bt844.2.1 bt844.2.2.1 bt844.2.2.2).bind fun bt852 => (if bt850.1 = bt852.1 then (laws_FnDuties.j4 k x0 bt844.1 bt844.2.1 bt844.2.2.1 bt844.2.2.2 bt850.1 bt850.2 (bt850.2 != bt852.2)) else (laws_FnDuties.j4 k x0 bt844.1 bt844.2.1 bt844.2.2.1 bt844.2.2.2 bt850.1 bt850.2 true))))
def laws_FnDuties.j4 : Nat → List Int → List (S44) → Int → Int → Int → Int → Bool → Bool → Option (Bool)
 | 0, _, _, _, _, _, _, _, _ => none
 | k + 1, x0, x16, x17, x18, x19, x20, x21, x152 => if x152 = true then (some false) else (if x21 = true then ((impl_AddDuty.f k x16 x17 x20 (wrap64 (x20 + x18))).bind fun bt854 => (if bt854.2 = true then (laws_FnDuties.j5 k x0 x16 x17 x18 x19 x20 (decide (x20 < x19))) else (laws_FnDuties.j5 k x0 x16 x17 x18 x19 x20 true))) else ((spec_DrawShortestRest.f k x0).bind fun bt870 => ((impl_ShortestRest.f k bt870.1 bt870.2).bind fun bt874 => ((spec_ShortestRest.f k bt870.1 bt870.2).bind fun bt876 => (if bt874.1 = bt876.1 then (if (bt874.2 == bt876.2) = true then (if bt874.2 = true then (some (decide (bt874.1 ≥ 11))) else (some true)) else (some false)) else (some false))))))
def laws_FnDuties.j5 : Nat → List Int → List (S44) → Int → Int → Int → Int → Bool → Option (Bool)
 | 0, _, _, _, _, _, _, _ => none
 | k + 1, x0, x16, x17, x18, x19, x20, x171 => if x171 = true then (some false) else ((impl_AddDuty.f k x16 x17 (wrap64 (x20 - 1)) (wrap64 ((wrap64 (x20 - 1)) + x18))).bind fun bt858 => (if bt858.2 = true then (laws_FnDuties.j6 k x0 (decide (x20 > x19))) else (laws_FnDuties.j6 k x0 false)))
def laws_FnDuties.j6 : Nat → List Int → Bool → Option (Bool)
 | 0, _, _ => none
 | k + 1, x0, x190 => if x190 = true then (some false) else ((spec_DrawShortestRest.f k x0).bind fun bt862 => ((impl_ShortestRest.f k bt862.1 bt862.2).bind fun bt866 => ((spec_ShortestRest.f k bt862.1 bt862.2).bind fun bt868 => (if bt866.1 = bt868.1 then (if (bt866.2 == bt868.2) = true then (if bt866.2 = true then (some (decide (bt866.1 ≥ 11))) else (some true)) else (some false)) else (some false)))))
def laws_FnDuties.j1 : Nat → List Int → List (S44) → Bool → Int → Int → Int → Option (Bool)
 | 0, _, _, _, _, _, _ => none
 | k + 1, x0, x5, x98, x825000, x825001, x825002 => if x98 = true then (some false) else (laws_FnDuties.l0 k x0 x5 x825001 x825000 x825001 x825002)
def laws_FnDuties.l0 : Nat → List Int → List (S44) → Int → Int → Int → Int → Option (Bool)
 | 0, _, _, _, _, _, _ => none
 | k + 1, x0, x5, x13, x825000, x825001, x825002 => if x13 < x825002 then ((impl_OnDuty.f k x5 x13).bind fun bt839 => (if bt839.2 = true then ((laws_rHas.f k bt839.1 x825000).bind fun t843 => (if t843 = true then (laws_FnDuties.l0 k x0 x5 (wrap64 (x13 + 1)) x825000 x825001 x825002) else (some false))) else (some false))) else (laws_FnDuties.j3 k x0)
end
def laws_FnDuties.f (k : Nat) (l0 : List Int) : Option (Bool) := (laws_rBig.f l0).bind fun t817 => (if t817 = true then (some true) else ((spec_DrawAddDuty.f k l0).bind fun bt818 => ((impl_AddDuty.f k bt818.1 bt818.2.1 bt818.2.2.1 bt818.2.2.2).bind fun bt825 => ((spec_AddDuty.f k bt818.1 bt818.2.1 bt818.2.2.1 bt818.2.2.2).bind fun bt829 => (if (bt825.2 != bt829.2) = true then (laws_FnDuties.j0 k l0 bt818.1 bt825.1 bt825.2 true bt818.2.1 bt818.2.2.1 bt818.2.2.2) else ((laws_rPlans.f k bt825.1 bt829.1).bind fun t833 => (laws_FnDuties.j0 k l0 bt818.1 bt825.1 bt825.2 (!t833) bt818.2.1 bt818.2.2.1 bt818.2.2.2)))))))
set_option maxHeartbeats 8000000 in
set_option maxRecDepth 100000 in
theorem laws_FnDuties.calls (k : Nat) (A0 : Option Addr) (c0 : Nat) (l0 : List Int) (r : Bool) (w : World) (hr0 : Kd.C (Kd.int .u8) w A0 l0.length l0) (hc0 : l0.length ≤ c0) (h : laws_FnDuties.f k l0 = some r) (hrt_ : r = true) :
  Calls Try.prog 12 #[.slice A0 l0.length c0] w fun e w' => e = .returned (.bool r) ∧ Below w.heap.size w w' := by
 have hu44 := Try.underlying44
 have HR0 := Aside0.mk hr0
 have HC0 := Aside0.mk hc0
 clear hr0 hc0
 have HB := Aside0.mk (Below.refl w.heap.size w)
 have H : ((laws_rBig.f l0).bind fun t817 => (if t817 = true then (some true) else ((spec_DrawAddDuty.f k l0).bind fun bt818 => ((impl_AddDuty.f k bt818.1 bt818.2.1 bt818.2.2.1 bt818.2.2.2).bind fun bt825 => ((spec_AddDuty.f k bt818.1 bt818.2.1 bt818.2.2.1 bt818.2.2.2).bind fun bt829 => (if (bt825.2 != bt829.2) = true then (laws_FnDuties.j0 k l0 bt818.1 bt825.1 bt825.2 true bt818.2.1 bt818.2.2.1 bt818.2.2.2) else ((laws_rPlans.f k bt825.1 bt829.1).bind fun t833 => (laws_FnDuties.j0 k l0 bt818.1 bt825.1 bt825.2 (!t833) bt818.2.1 bt818.2.2.1 bt818.2.2.2)))))))) = some r := h
 clear h
 replace H := Option.bind_eq_some_iff.mp H
 obtain ⟨t817, A20, H⟩ := H
 replace H : (if t817 = true then (some true) else ((spec_DrawAddDuty.f k l0).bind fun bt818 => ((impl_AddDuty.f k bt818.1 bt818.2.1 bt818.2.2.1 bt818.2.2.2).bind fun bt825 => ((spec_AddDuty.f k bt818.1 bt818.2.1 bt818.2.2.1 bt818.2.2.2).bind fun bt829 => (if (bt825.2 != bt829.2) = true then (laws_FnDuties.j0 k l0 bt818.1 bt825.1 bt825.2 true bt818.2.1 bt818.2.2.1 bt818.2.2.2) else ((laws_rPlans.f k bt825.1 bt829.1).bind fun t833 => (laws_FnDuties.j0 k l0 bt818.1 bt825.1 bt825.2 (!t833) bt818.2.1 bt818.2.2.1 bt818.2.2.2))))))) = some r := H
 have A2 := Aside0.mk A20
 clear A20
 by_cases c3 : t817 = true
 ·
  subst c3
  have H1 : (some true) = some r := by rw [if_pos rfl] at H; exact H
  clear H
  have H := H1
  clear H1
  obtain rfl := Option.some.inj H
  go_enter Try.func12, Try.ntmps12
  go_wp2_with (first | ((with_reducible refine gate_callee (f := 41) rfl ?_); refine goesL_ (some 35) rfl rfl Try.func41 (by kernel_rfl) rfl #[.slice A0 l0.length c0] rfl (by (try simp only [List.map_toArray, List.map_cons, List.map_nil]); first | done | rfl | (simp only [List.length_drop, List.length_take]; rfl)) ?_; (with_reducible refine (laws_rBig.calls _ _ l0 true _ ?side1 ?side2 A2.out).mono ?_); (case side1 => repeat (first | exact HR0.out | (with_reducible refine Kd.C_alloc ?_ _) | (with_reducible refine Kd.C_drewN ?_ _) | (with_reducible refine Kd.C_drew ?_))); (case side2 => exact HC0.out); rintro e w' ⟨rfl, ⟨nd, rfl⟩⟩; refine ⟨_, rfl, ?_⟩))
  go_ret
  exact ⟨by first | rfl | (simp [*, errW_none, errW_some] <;> rfl), by repeat (first | (with_reducible first | exact HB.out | apply below_alloc | apply pw_below_drewN | apply below_drew1) | exact HB.out)⟩
 replace c3 := Bool.eq_false_iff.mpr c3
 subst c3
 have H1 : ((spec_DrawAddDuty.f k l0).bind fun bt818 => ((impl_AddDuty.f k bt818.1 bt818.2.1 bt818.2.2.1 bt818.2.2.2).bind fun bt825 => ((spec_AddDuty.f k bt818.1 bt818.2.1 bt818.2.2.1 bt818.2.2.2).bind fun bt829 => (if (bt825.2 != bt829.2) = true then (laws_FnDuties.j0 k l0 bt818.1 bt825.1 bt825.2 true bt818.2.1 bt818.2.2.1 bt818.2.2.2) else ((laws_rPlans.f k bt825.1 bt829.1).bind fun t833 => (laws_FnDuties.j0 k l0 bt818.1 bt825.1 bt825.2 (!t833) bt818.2.1 bt818.2.2.1 bt818.2.2.2)))))) = some r := by rw [if_neg (show ¬ (false = true) by decide)] at H; exact H
 clear H
 have H := H1
 clear H1
 replace H := Option.bind_eq_some_iff.mp H
 obtain ⟨⟨t818, t821, t822, t823⟩, A40, H⟩ := H
 replace H : ((impl_AddDuty.f k t818 t821 t822 t823).bind fun bt825 => ((spec_AddDuty.f k t818 t821 t822 t823).bind fun bt829 => (if (bt825.2 != bt829.2) = true then (laws_FnDuties.j0 k l0 t818 bt825.1 bt825.2 true t821 t822 t823) else ((laws_rPlans.f k bt825.1 bt829.1).bind fun t833 => (laws_FnDuties.j0 k l0 t818 bt825.1 bt825.2 (!t833) t821 t822 t823))))) = some r := H
 have A4 := Aside0.mk A40
 clear A40
 replace H := Option.bind_eq_some_iff.mp H
 obtain ⟨⟨t825, t828⟩, A50, H⟩ := H
 replace H : ((spec_AddDuty.f k t818 t821 t822 t823).bind fun bt829 => (if (t828 != bt829.2) = true then (laws_FnDuties.j0 k l0 t818 t825 t828 true t821 t822 t823) else ((laws_rPlans.f k t825 bt829.1).bind fun t833 => (laws_FnDuties.j0 k l0 t818 t825 t828 (!t833) t821 t822 t823)))) = some r := H
 have A5 := Aside0.mk A50
 clear A50
 replace H := Option.bind_eq_some_iff.mp H
 obtain ⟨⟨t829, t832⟩, A60, H⟩ := H
 replace H : (if (t828 != t832) = true then (laws_FnDuties.j0 k l0 t818 t825 t828 true t821 t822 t823) else ((laws_rPlans.f k t825 t829).bind fun t833 => (laws_FnDuties.j0 k l0 t818 t825 t828 (!t833) t821 t822 t823))) = some r := H
 have A6 := Aside0.mk A60
 clear A60
 have HC7 := Aside0.mk H
 clear H
 go_enter Try.func12, Try.ntmps12
 go_upto_region 6 with (first | ((with_reducible refine gate_callee (f := 41) rfl ?_); refine goesL_ (some 35) rfl rfl Try.func41 (by kernel_rfl) rfl #[.slice A0 l0.length c0] rfl (by (try simp only [List.map_toArray, List.map_cons, List.map_nil]); first | done | rfl | (simp only [List.length_drop, List.length_take]; rfl)) ?_; (with_reducible refine (laws_rBig.calls _ _ l0 false _ ?side1 ?side2 A2.out).mono ?_); (case side1 => repeat (first | exact HR0.out | (with_reducible refine Kd.C_alloc ?_ _) | (with_reducible refine Kd.C_drewN ?_ _) | (with_reducible refine Kd.C_drew ?_))); (case side2 => exact HC0.out); rintro e w' ⟨rfl, ⟨nd, rfl⟩⟩; refine ⟨_, rfl, ?_⟩) | ((with_reducible refine gate_callee (f := 42) rfl ?_); refine goesL_ (some 38) rfl rfl Try.func42 (by kernel_rfl) rfl #[.slice A0 l0.length c0] rfl (by (try simp only [List.map_toArray, List.map_cons, List.map_nil]); first | done | rfl | (simp only [List.length_drop, List.length_take]; rfl)) ?_; (with_reducible refine (spec_DrawAddDuty.calls k _ _ l0 t818 t821 t822 t823 _ ?side1 ?side2 A4.out).mono ?_); (case side1 => repeat (first | exact HR0.out | (with_reducible refine Kd.C_alloc ?_ _) | (with_reducible refine Kd.C_drewN ?_ _) | (with_reducible refine Kd.C_drew ?_))); (case side2 => exact HC0.out); rintro e w8 ⟨v819, rfl, ho0, hb⟩; refine ⟨_, rfl, ?_⟩; have n0_ := Aside0.mk (Kd.R_lower ho0 (below_size (by repeat (first | (with_reducible first | exact HB.out | apply below_alloc | apply pw_below_drewN | apply below_drew1) | exact HB.out)))); have n1_ := Aside0.mk (below_step (by repeat (first | (with_reducible first | exact HB.out | apply below_alloc | apply pw_below_drewN | apply below_drew1) | exact HB.out)) hb); clear HB; have HO820 := n0_; have HB := n1_; clear n0_ n1_; (try clear hb hb2 hk hi); (try clear ho0)) | ((with_reducible refine gate_dst (N := 4) rfl ?_); refine box_event ?hg (N := 4) ?hd (cs := #[.int .i64 0, .int .i64 0, .int .i64 0]) (t := 44) ?hr ?_; (case hd => rfl); (case hg => rfl); (case hr => first | (go_simp; done) | (go_simp; rfl)); intro gb824 hg w9 hbox hb; have n0_ := Aside0.mk (Kd.R_below (Kd.R_elderB (by (with_reducible repeat (first | apply Kd.R_alloc | apply Kd.R_drewN | apply Kd.R_drew)); exact HO820.out) gb824 (Nat.le_of_eq hg.symm)) hb); have n1_ := Aside0.mk (below_step (by repeat (first | (with_reducible first | exact HB.out | apply below_alloc | apply pw_below_drewN | apply below_drew1) | exact HB.out)) hb); have n2_ := Aside0.mk (hbox); have n3_ := Aside0.mk ((by rw [hg]; exact (below_size (by repeat (first | (with_reducible first | exact HB.out | apply below_alloc | apply pw_below_drewN | apply below_drew1) | exact HB.out))) : w.heap.size ≤ gb824)); have n4_ := Aside0.mk ((by rw [hg]; exact (below_size (by repeat (first | (with_reducible first | exact HB.out | apply below_alloc | apply pw_below_drewN | apply below_drew1) | exact HB.out))) : w.heap.size ≤ gb824)); clear HO820 HB; have HO820 := n0_; have HB := n1_; have BK824 := n2_; have GW824 := n3_; have GE824 := n4_; clear n0_ n1_ n2_ n3_ n4_ hb hbox hg; have hcz10_0 : w9.cell? ⟨gb824, 0, none⟩ = some (.int .i64 0) := (blk_cell BK824.out 0).trans rfl; have hcz10_1 : w9.cell? ⟨gb824, 1, none⟩ = some (.int .i64 0) := (blk_cell BK824.out 1).trans rfl; have hcz10_2 : w9.cell? ⟨gb824, 2, none⟩ = some (.int .i64 0) := (blk_cell BK824.out 2).trans rfl; have hfz10_0 := blk_frozen BK824.out 0; have hfz10_1 := blk_frozen BK824.out 1; have hfz10_2 := blk_frozen BK824.out 2; obtain ⟨Ao11, co11, eo11⟩ := Kd.R_slice HO820.out; subst eo11) | ((with_reducible refine gate_callee (f := 33) rfl ?_); refine goesL_ (some 44) rfl rfl Try.func33 (by kernel_rfl) rfl #[.slice Ao11 t818.length co11, .agg #[.int .i64 t821, .int .i64 t822, .int .i64 t823]] rfl (by (try simp only [List.map_toArray, List.map_cons, List.map_nil]); first | done | rfl | (simp only [List.length_drop, List.length_take]; rfl)) ?_; (with_reducible refine (impl_AddDuty.calls k _ _ t818 t821 t822 t823 t825 t828 _ ?side1 ?side2 A5.out).mono ?_); (case side1 => refine (Kd.R_reads' (e := 44) (base := w.heap.size) (ok := fun k_ => (True ∧ k_ ≠ gb824)) (n := t818.length) (c := co11) ?_).2.2; exact (by (with_reducible repeat (first | apply Kd.R_alloc | apply Kd.R_drewN | apply Kd.R_drew)); exact (Kd.R_mono (Kd.R_far (p := ⟨gb824, 2, none⟩) (Kd.R_far (p := ⟨gb824, 1, none⟩) (Kd.R_far (p := ⟨gb824, 0, none⟩) (Kd.R_mono HO820.out (fun k_ hk => (⟨hk, hk.2⟩ : _ ∧ k_ ≠ gb824))) (fun _ hk => hk.2) (.int .i64 t821)) (fun _ hk => hk.2) (.int .i64 t822)) (fun _ hk => hk.2) (.int .i64 t823)) (fun _ h_ => h_.1)))); (case side2 => exact (Kd.R_reads' HO820.out).2.1); rintro e w12 ⟨v826, rfl, ho0, hb⟩; refine ⟨_, rfl, ?_⟩; have n0_ := Aside0.mk (Kd.R_elder' (by (with_reducible repeat (first | apply Kd.R_alloc | apply Kd.R_drewN | apply Kd.R_drew)); exact (Kd.R_mono (Kd.R_far (p := ⟨gb824, 2, none⟩) (Kd.R_far (p := ⟨gb824, 1, none⟩) (Kd.R_far (p := ⟨gb824, 0, none⟩) (Kd.R_mono HO820.out (fun k_ hk => (⟨hk, hk.2⟩ : _ ∧ k_ ≠ gb824))) (fun _ hk => hk.2) (.int .i64 t821)) (fun _ hk => hk.2) (.int .i64 t822)) (fun _ hk => hk.2) (.int .i64 t823)) (fun _ h_ => h_.1))) (Kd.R_base ho0) hb); have n1_ := Aside0.mk (Kd.R_lower (Kd.R_newB (Kd.R_new' ho0 (Kd.R_lt (by (with_reducible repeat (first | apply Kd.R_alloc | apply Kd.R_drewN | apply Kd.R_drew)); exact (Kd.R_mono (Kd.R_far (p := ⟨gb824, 2, none⟩) (Kd.R_far (p := ⟨gb824, 1, none⟩) (Kd.R_far (p := ⟨gb824, 0, none⟩) (Kd.R_mono HO820.out (fun k_ hk => (⟨hk, hk.2⟩ : _ ∧ k_ ≠ gb824))) (fun _ hk => hk.2) (.int .i64 t821)) (fun _ hk => hk.2) (.int .i64 t822)) (fun _ hk => hk.2) (.int .i64 t823)) (fun _ h_ => h_.1))))) (g := gb824) (o := .cells #[.int .i64 t821, .int .i64 t822, .int .i64 t823] 44 (0, 0)) (by (with_reducible repeat (first | refine blk_drewN ?_ _ | refine blk_drew ?_ | refine blk_alloc ?_ _)); refine blk_put (cs := #[.int .i64 t821, .int .i64 t822, .int .i64 0]) ?_ 2 _ rfl; (with_reducible repeat (first | refine blk_drewN ?_ _ | refine blk_drew ?_ | refine blk_alloc ?_ _)); refine blk_put (cs := #[.int .i64 t821, .int .i64 0, .int .i64 0]) ?_ 1 _ rfl; (with_reducible repeat (first | refine blk_drewN ?_ _ | refine blk_drew ?_ | refine blk_alloc ?_ _)); refine blk_put (cs := #[.int .i64 0, .int .i64 0, .int .i64 0]) ?_ 0 _ rfl; (with_reducible repeat (first | refine blk_drewN ?_ _ | refine blk_drew ?_ | refine blk_alloc ?_ _)); exact BK824.out)) (below_size (by repeat (first | (with_reducible first | exact HB.out | apply below_alloc | apply pw_below_drewN | apply below_drew1 | refine below_set ?_ GE824.out) | exact HB.out)))); have n2_ := Aside0.mk (blk_below (g := gb824) (o := .cells #[.int .i64 t821, .int .i64 t822, .int .i64 t823] 44 (0, 0)) (by (with_reducible repeat (first | refine blk_drewN ?_ _ | refine blk_drew ?_ | refine blk_alloc ?_ _)); refine blk_put (cs := #[.int .i64 t821, .int .i64 t822, .int .i64 0]) ?_ 2 _ rfl; (with_reducible repeat (first | refine blk_drewN ?_ _ | refine blk_drew ?_ | refine blk_alloc ?_ _)); refine blk_put (cs := #[.int .i64 t821, .int .i64 0, .int .i64 0]) ?_ 1 _ rfl; (with_reducible repeat (first | refine blk_drewN ?_ _ | refine blk_drew ?_ | refine blk_alloc ?_ _)); refine blk_put (cs := #[.int .i64 0, .int .i64 0, .int .i64 0]) ?_ 0 _ rfl; (with_reducible repeat (first | refine blk_drewN ?_ _ | refine blk_drew ?_ | refine blk_alloc ?_ _)); exact BK824.out) hb); have n3_ := Aside0.mk (below_step (by repeat (first | (with_reducible first | exact HB.out | apply below_alloc | apply pw_below_drewN | apply below_drew1 | refine below_set ?_ GE824.out) | exact HB.out)) hb); clear HO820 BK824 HB; have HO820 := n0_; have HO827 := n1_; have BK824 := n2_; have HB := n3_; clear n0_ n1_ n2_ n3_; (try clear hb hb2 hk hi); (try clear ho0); have hcz13_0 : w12.cell? ⟨gb824, 0, none⟩ = some (.int .i64 t821) := (blk_cell BK824.out 0).trans rfl; have hcz13_1 : w12.cell? ⟨gb824, 1, none⟩ = some (.int .i64 t822) := (blk_cell BK824.out 1).trans rfl; have hcz13_2 : w12.cell? ⟨gb824, 2, none⟩ = some (.int .i64 t823) := (blk_cell BK824.out 2).trans rfl; have hfz13_0 := blk_frozen BK824.out 0; have hfz13_1 := blk_frozen BK824.out 1; have hfz13_2 := blk_frozen BK824.out 2) | ((with_reducible refine gate_callee (f := 31) rfl ?_); refine goesL_ (some 50) rfl rfl Try.func31 (by kernel_rfl) rfl #[.slice Ao11 t818.length co11, .agg #[.int .i64 t821, .int .i64 t822, .int .i64 t823]] rfl (by (try simp only [List.map_toArray, List.map_cons, List.map_nil]); first | done | rfl | (simp only [List.length_drop, List.length_take]; rfl)) ?_; (with_reducible refine (spec_AddDuty.calls k _ _ t818 t821 t822 t823 t829 t832 _ ?side1 ?side2 A6.out).mono ?_); (case side1 => repeat (first | exact (Kd.R_reads' HO820.out).2.2 | (with_reducible refine Kd.C_alloc ?_ _) | (with_reducible refine Kd.C_drewN ?_ _) | (with_reducible refine Kd.C_drew ?_))); (case side2 => exact (Kd.R_reads' HO820.out).2.1); rintro e w14 ⟨v830, rfl, ho0, hb⟩; refine ⟨_, rfl, ?_⟩; have n0_ := Aside0.mk (Kd.R_elder' (by (with_reducible repeat (first | apply Kd.R_alloc | apply Kd.R_drewN | apply Kd.R_drew)); exact HO820.out) (Kd.R_base ho0) hb); have n1_ := Aside0.mk (Kd.R_elder' (by (with_reducible repeat (first | apply Kd.R_alloc | apply Kd.R_drewN | apply Kd.R_drew)); exact HO827.out) (Kd.R_base ho0) hb); have n2_ := Aside0.mk (Kd.R_lower (Kd.R_newB (Kd.R_new' (Kd.R_new' ho0 (Kd.R_lt (by (with_reducible repeat (first | apply Kd.R_alloc | apply Kd.R_drewN | apply Kd.R_drew)); exact HO820.out))) (Kd.R_lt (by (with_reducible repeat (first | apply Kd.R_alloc | apply Kd.R_drewN | apply Kd.R_drew)); exact HO827.out))) (g := gb824) (o := .cells #[.int .i64 t821, .int .i64 t822, .int .i64 t823] 44 (0, 0)) BK824.out) (below_size (by repeat (first | (with_reducible first | exact HB.out | apply below_alloc | apply pw_below_drewN | apply below_drew1 | refine below_set ?_ GE824.out) | exact HB.out)))); have n3_ := Aside0.mk (blk_below (g := gb824) (o := .cells #[.int .i64 t821, .int .i64 t822, .int .i64 t823] 44 (0, 0)) BK824.out hb); have n4_ := Aside0.mk (below_step (by repeat (first | (with_reducible first | exact HB.out | apply below_alloc | apply pw_below_drewN | apply below_drew1 | refine below_set ?_ GE824.out) | exact HB.out)) hb); clear HO820 HO827 BK824 HB; have HO820 := n0_; have HO827 := n1_; have HO831 := n2_; have BK824 := n3_; have HB := n4_; clear n0_ n1_ n2_ n3_ n4_; (try clear hb hb2 hk hi); (try clear ho0)))
 (try simp only [Act.put, List.setIfInBounds_toArray, List.set_cons_zero, List.set_cons_succ])
 go_cut [61] (fun v61 wc => ∃ (kq : Nat) (x61_6 : Bool), v61 = .bool x61_6 ∧ Aside0 (laws_FnDuties.j0 kq l0 t818 t825 t828 x61_6 t821 t822 t823 = some r) ∧ Aside0 (kq ≤ k) ∧ Aside0 (Kd.R k44 44 wc w.heap.size (fun k_ => some k_ ≠ (v826 : Value).ownBlock ∧ k_ ≠ gb824) (.slice Ao11 t818.length co11) t818) ∧ Aside0 (Kd.R k44 44 wc w.heap.size (fun k_ => some k_ ≠ ((.slice Ao11 t818.length co11) : Value).ownBlock ∧ k_ ≠ gb824) v826 t825) ∧ Aside0 (wc.heap[gb824]? = some (.cells #[.int .i64 t821, .int .i64 t822, .int .i64 t823] 44 (0, 0))) ∧ Aside0 (Below w.heap.size w wc))
 case first =>
  as_aux_lemma =>
   have H := HC7.out
   clear HC7
   by_cases c15 : (t828 != t832) = true
   ·
    rw [if_pos c15] at H
    have c15b0 : (t828 != t832) = true := c15
    (try (have c15b1 : decide (t828 = t832) = false := by simpa using c15))
    (try (have c15b2 : (t828 == t832) = false := by simpa using c15))
    (try (have c15b3 : ¬ (t828 = t832) := by simpa using c15))
    clear c15
    (first | rw [c15b0] | (simp only [i64_w, i32_w]; rw [c15b0]) | skip)
    have H' := Aside0.mk H
    clear H
    go_wp2
    go_meet
    case rel => exact ⟨_, (true), (by first | rfl | (simp; done) | (simp [*]; done)), H', ⟨by first | omega | exact Nat.le_refl _⟩, ⟨by (with_reducible repeat (first | apply Kd.R_alloc | apply Kd.R_drewN | apply Kd.R_drew)); exact Kd.R_mono HO820.out (fun _ hk => ⟨hk.1.2, hk.1.1.2⟩)⟩, ⟨by (with_reducible repeat (first | apply Kd.R_alloc | apply Kd.R_drewN | apply Kd.R_drew)); exact Kd.R_mono HO827.out (fun _ hk => ⟨hk.1.1.2, hk.1.2⟩)⟩, ⟨by (with_reducible repeat (first | refine blk_drewN ?_ _ | refine blk_drew ?_ | refine blk_alloc ?_ _)); exact BK824.out⟩, ⟨by repeat (first | (with_reducible first | exact HB.out | apply below_alloc | apply pw_below_drewN | apply below_drew1 | refine below_set ?_ GE824.out) | exact HB.out)⟩⟩
   rw [if_neg c15] at H
   have c15b0 : (t828 != t832) = false := by simpa using c15
   (try (have c15b1 : decide (t828 = t832) = true := by simpa using c15))
   (try (have c15b2 : (t828 == t832) = true := by simpa using c15))
   clear c15
   (first | rw [c15b0] | (simp only [i64_w, i32_w]; rw [c15b0]) | skip)
   replace H := Option.bind_eq_some_iff.mp H
   obtain ⟨t833, A160, H⟩ := H
   replace H : (laws_FnDuties.j0 k l0 t818 t825 t828 (!t833) t821 t822 t823) = some r := H
   have A16 := Aside0.mk A160
   clear A160
   have H' := Aside0.mk H
   clear H
   obtain ⟨Ao17, co17, eo17⟩ := Kd.R_slice HO827.out
   subst eo17
   obtain ⟨Ao18, co18, eo18⟩ := Kd.R_slice HO831.out
   subst eo18
   go_wp2_with (first | (go_at_call 43; (with_reducible refine (laws_rPlans.calls k _ _ t825 _ _ t829 t833 _ ?side1 ?side2 ?side3 ?side4 A16.out).mono ?_); (case side1 => repeat (first | exact (Kd.R_reads' HO827.out).2.2 | (with_reducible refine Kd.C_alloc ?_ _) | (with_reducible refine Kd.C_drewN ?_ _) | (with_reducible refine Kd.C_drew ?_))); (case side2 => exact (Kd.R_reads' HO827.out).2.1); (case side3 => repeat (first | exact (Kd.R_reads' HO831.out).2.2 | (with_reducible refine Kd.C_alloc ?_ _) | (with_reducible refine Kd.C_drewN ?_ _) | (with_reducible refine Kd.C_drew ?_))); (case side4 => exact (Kd.R_reads' HO831.out).2.1); rintro e w' ⟨rfl, ⟨nd, rfl⟩⟩))
   go_meet
   case rel => exact ⟨_, (!t833), (by first | rfl | (simp; done) | (simp [*]; done)), H', ⟨by first | omega | exact Nat.le_refl _⟩, ⟨by (with_reducible repeat (first | apply Kd.R_alloc | apply Kd.R_drewN | apply Kd.R_drew)); exact Kd.R_mono HO820.out (fun _ hk => ⟨hk.1.2, hk.1.1.2⟩)⟩, ⟨by (with_reducible repeat (first | apply Kd.R_alloc | apply Kd.R_drewN | apply Kd.R_drew)); exact Kd.R_mono HO827.out (fun _ hk => ⟨hk.1.1.2, hk.1.2⟩)⟩, ⟨by (with_reducible repeat (first | refine blk_drewN ?_ _ | refine blk_drew ?_ | refine blk_alloc ?_ _)); exact BK824.out⟩, ⟨by repeat (first | (with_reducible first | exact HB.out | apply below_alloc | apply pw_below_drewN | apply below_drew1 | refine below_set ?_ GE824.out) | exact HB.out)⟩⟩
 case rest =>
  as_aux_lemma =>
   clear HC7
   try clear c1
   try clear p2
   try clear c3
   try clear c4
   try clear c12
   try clear c15
   try clear c15b0
   try clear c15b1
   try clear c15b2
   try clear hcz10_0
   try clear hcz10_1
   try clear hcz10_2
   try clear hcz13_0
   try clear hcz13_1
   try clear hcz13_2
   try clear hfz10_0
   try clear hfz10_1
   try clear hfz10_2
   try clear hfz13_0
   try clear hfz13_1
   try clear hfz13_2
   obtain ⟨kq, x61_6, rfl, HA, HJ6, HO_3, HO_5, BK824, HB⟩ := hcut
   cases kq with
   | zero => exact absurd HA.out (by simp [laws_FnDuties.j0])
   | succ kj6 =>
    have H := HA.out
    clear HA
    simp only [laws_FnDuties.j0] at H
    by_cases c19 : x61_6 = true
    ·
     subst c19
     have H1 : (some false) = some r := by rw [if_pos rfl] at H; exact H
     exact absurd ((Option.some.inj H1).trans hrt_) (by decide)
    replace c19 := Bool.eq_false_iff.mpr c19
    subst c19
    have H1 : (if t828 = true then ((impl_DutyHours.f kj6 t818 t821).bind fun bt834 => ((impl_DutyHours.f kj6 t825 t821).bind fun bt836 => (if bt834.2 = true then (if bt836.2 = true then (if bt836.1 = (wrap64 ((wrap64 (bt834.1 + t823)) - t822)) then ((impl_IsValidPlan.f kj6 t825).bind fun t838 => (laws_FnDuties.j1 kj6 l0 t825 (!t838) t821 t822 t823)) else (laws_FnDuties.j1 kj6 l0 t825 true t821 t822 t823)) else (laws_FnDuties.j1 kj6 l0 t825 true t821 t822 t823)) else (laws_FnDuties.j1 kj6 l0 t825 true t821 t822 t823)))) else (laws_FnDuties.j3 kj6 l0)) = some r := by rw [if_neg (show ¬ (false = true) by decide)] at H; exact H
    clear H
    have H := H1
    clear H1
    have HC20 := Aside0.mk H
    clear H
    go_upto_if 62 with (fail)
    go_cut [] (fun wc => ∃ (kq : Nat), Aside0 (laws_FnDuties.j3 kq l0 = some r) ∧ Aside0 (kq ≤ kj6) ∧ Aside0 (wc.heap[gb824]? = some (.cells #[.int .i64 t821, .int .i64 t822, .int .i64 t823] 44 (0, 0))) ∧ Aside0 (Below w.heap.size w wc))
    case first =>
     as_aux_lemma =>
      have H := HC20.out
      clear HC20
      by_cases c21 : t828 = true
      rotate_left
      ·
       replace c21 := Bool.eq_false_iff.mpr c21
       subst c21
       have H1 : (laws_FnDuties.j3 kj6 l0) = some r := by rw [if_neg (show ¬ (false = true) by decide)] at H; exact H
       clear H
       have H := H1
       clear H1
       have H' := Aside0.mk H
       clear H
       go_wp2
       go_meet
       case rel => exact ⟨_, H', ⟨by have := HJ6.out; first | omega | exact Nat.le_refl _⟩, ⟨by (with_reducible repeat (first | refine blk_drewN ?_ _ | refine blk_drew ?_ | refine blk_alloc ?_ _)); exact BK824.out⟩, ⟨by repeat (first | (with_reducible first | exact HB.out | apply below_alloc | apply pw_below_drewN | apply below_drew1 | refine below_set ?_ GE824.out) | exact HB.out)⟩⟩
      subst c21
      have H1 : ((impl_DutyHours.f kj6 t818 t821).bind fun bt834 => ((impl_DutyHours.f kj6 t825 t821).bind fun bt836 => (if bt834.2 = true then (if bt836.2 = true then (if bt836.1 = (wrap64 ((wrap64 (bt834.1 + t823)) - t822)) then ((impl_IsValidPlan.f kj6 t825).bind fun t838 => (laws_FnDuties.j1 kj6 l0 t825 (!t838) t821 t822 t823)) else (laws_FnDuties.j1 kj6 l0 t825 true t821 t822 t823)) else (laws_FnDuties.j1 kj6 l0 t825 true t821 t822 t823)) else (laws_FnDuties.j1 kj6 l0 t825 true t821 t822 t823)))) = some r := by rw [if_pos rfl] at H; exact H
      clear H
      have H := H1
      clear H1
      replace H := Option.bind_eq_some_iff.mp H
      obtain ⟨⟨t834, t835⟩, A220, H⟩ := H
      replace H : ((impl_DutyHours.f kj6 t825 t821).bind fun bt836 => (if t835 = true then (if bt836.2 = true then (if bt836.1 = (wrap64 ((wrap64 (t834 + t823)) - t822)) then ((impl_IsValidPlan.f kj6 t825).bind fun t838 => (laws_FnDuties.j1 kj6 l0 t825 (!t838) t821 t822 t823)) else (laws_FnDuties.j1 kj6 l0 t825 true t821 t822 t823)) else (laws_FnDuties.j1 kj6 l0 t825 true t821 t822 t823)) else (laws_FnDuties.j1 kj6 l0 t825 true t821 t822 t823))) = some r := H
      have A22 := Aside0.mk A220
      clear A220
      replace H := Option.bind_eq_some_iff.mp H
      obtain ⟨⟨t836, t837⟩, A230, H⟩ := H
      replace H : (if t835 = true then (if t837 = true then (if t836 = (wrap64 ((wrap64 (t834 + t823)) - t822)) then ((impl_IsValidPlan.f kj6 t825).bind fun t838 => (laws_FnDuties.j1 kj6 l0 t825 (!t838) t821 t822 t823)) else (laws_FnDuties.j1 kj6 l0 t825 true t821 t822 t823)) else (laws_FnDuties.j1 kj6 l0 t825 true t821 t822 t823)) else (laws_FnDuties.j1 kj6 l0 t825 true t821 t822 t823)) = some r := H
      have A23 := Aside0.mk A230
      clear A230
      have HC24 := Aside0.mk H
      clear H
      have hcz25_0 : wc.cell? ⟨gb824, 0, none⟩ = some (.int .i64 t821) := (blk_cell BK824.out 0).trans rfl
      have hcz25_1 : wc.cell? ⟨gb824, 1, none⟩ = some (.int .i64 t822) := (blk_cell BK824.out 1).trans rfl
      have hcz25_2 : wc.cell? ⟨gb824, 2, none⟩ = some (.int .i64 t823) := (blk_cell BK824.out 2).trans rfl
      have hfz25_0 := blk_frozen BK824.out 0
      have hfz25_1 := blk_frozen BK824.out 1
      have hfz25_2 := blk_frozen BK824.out 2
      go_upto_region 11 with (first | ((with_reducible refine gate_callee (f := 20) rfl ?_); refine goesL_ (some 67) rfl rfl Try.func20 (by kernel_rfl) rfl #[.slice Ao11 t818.length co11, .int .i64 t821] rfl (by (try simp only [List.map_toArray, List.map_cons, List.map_nil]); first | done | rfl | (simp only [List.length_drop, List.length_take]; rfl)) ?_; (with_reducible refine (impl_DutyHours.calls kj6 _ _ t818 t821 t834 t835 _ ?side1 ?side2 A22.out).mono ?_); (case side1 => repeat (first | exact (Kd.R_reads' HO_3.out).2.2 | (with_reducible refine Kd.C_alloc ?_ _) | (with_reducible refine Kd.C_drewN ?_ _) | (with_reducible refine Kd.C_drew ?_))); (case side2 => exact (Kd.R_reads' HO_3.out).2.1); rintro e w26 ⟨rfl, hb⟩; refine ⟨_, rfl, ?_⟩; have n0_ := Aside0.mk (Kd.R_below (by (with_reducible repeat (first | apply Kd.R_alloc | apply Kd.R_drewN | apply Kd.R_drew)); exact HO_3.out) hb); have n1_ := Aside0.mk (Kd.R_below (by (with_reducible repeat (first | apply Kd.R_alloc | apply Kd.R_drewN | apply Kd.R_drew)); exact HO_5.out) hb); have n2_ := Aside0.mk (blk_below (g := gb824) (o := .cells #[.int .i64 t821, .int .i64 t822, .int .i64 t823] 44 (0, 0)) BK824.out hb); have n3_ := Aside0.mk (below_step (by repeat (first | (with_reducible first | exact HB.out | apply below_alloc | apply pw_below_drewN | apply below_drew1 | refine below_set ?_ GE824.out) | exact HB.out)) hb); clear HO_3 HO_5 BK824 HB; have HO_3 := n0_; have HO_5 := n1_; have BK824 := n2_; have HB := n3_; clear n0_ n1_ n2_ n3_; (try clear hb hb2 hk hi); have hcz27_0 : w26.cell? ⟨gb824, 0, none⟩ = some (.int .i64 t821) := (blk_cell BK824.out 0).trans rfl; have hcz27_1 : w26.cell? ⟨gb824, 1, none⟩ = some (.int .i64 t822) := (blk_cell BK824.out 1).trans rfl; have hcz27_2 : w26.cell? ⟨gb824, 2, none⟩ = some (.int .i64 t823) := (blk_cell BK824.out 2).trans rfl; have hfz27_0 := blk_frozen BK824.out 0; have hfz27_1 := blk_frozen BK824.out 1; have hfz27_2 := blk_frozen BK824.out 2; obtain ⟨Ao28, co28, eo28⟩ := Kd.R_slice HO_5.out; subst eo28) | ((with_reducible refine gate_callee (f := 20) rfl ?_); refine goesL_ (some 74) rfl rfl Try.func20 (by kernel_rfl) rfl #[.slice Ao28 t825.length co28, .int .i64 t821] rfl (by (try simp only [List.map_toArray, List.map_cons, List.map_nil]); first | done | rfl | (simp only [List.length_drop, List.length_take]; rfl)) ?_; (with_reducible refine (impl_DutyHours.calls kj6 _ _ t825 t821 t836 t837 _ ?side1 ?side2 A23.out).mono ?_); (case side1 => repeat (first | exact (Kd.R_reads' HO_5.out).2.2 | (with_reducible refine Kd.C_alloc ?_ _) | (with_reducible refine Kd.C_drewN ?_ _) | (with_reducible refine Kd.C_drew ?_))); (case side2 => exact (Kd.R_reads' HO_5.out).2.1); rintro e w29 ⟨rfl, hb⟩; refine ⟨_, rfl, ?_⟩; have n0_ := Aside0.mk (Kd.R_below (by (with_reducible repeat (first | apply Kd.R_alloc | apply Kd.R_drewN | apply Kd.R_drew)); exact HO_3.out) hb); have n1_ := Aside0.mk (Kd.R_below (by (with_reducible repeat (first | apply Kd.R_alloc | apply Kd.R_drewN | apply Kd.R_drew)); exact HO_5.out) hb); have n2_ := Aside0.mk (blk_below (g := gb824) (o := .cells #[.int .i64 t821, .int .i64 t822, .int .i64 t823] 44 (0, 0)) BK824.out hb); have n3_ := Aside0.mk (below_step (by repeat (first | (with_reducible first | exact HB.out | apply below_alloc | apply pw_below_drewN | apply below_drew1 | refine below_set ?_ GE824.out) | exact HB.out)) hb); clear HO_3 HO_5 BK824 HB; have HO_3 := n0_; have HO_5 := n1_; have BK824 := n2_; have HB := n3_; clear n0_ n1_ n2_ n3_; (try clear hb hb2 hk hi)))
      (try simp only [Act.put, List.setIfInBounds_toArray, List.set_cons_zero, List.set_cons_succ])
      go_cut [98] (fun v98 wc => ∃ (kq : Nat) (x98_23 : Bool), v98 = .bool x98_23 ∧ Aside0 (laws_FnDuties.j1 kq l0 t825 x98_23 t821 t822 t823 = some r) ∧ Aside0 (kq ≤ kj6) ∧ Aside0 (Kd.R k44 44 wc w.heap.size (fun k_ => k_ ≠ gb824) (.slice Ao28 t825.length co28) t825) ∧ Aside0 (wc.heap[gb824]? = some (.cells #[.int .i64 t821, .int .i64 t822, .int .i64 t823] 44 (0, 0))) ∧ Aside0 (Below w.heap.size w wc))
      case first =>
       as_aux_lemma =>
        have H := HC24.out
        clear HC24
        by_cases c30 : t835 = true
        rotate_left
        ·
         replace c30 := Bool.eq_false_iff.mpr c30
         subst c30
         have H1 : (laws_FnDuties.j1 kj6 l0 t825 true t821 t822 t823) = some r := by rw [if_neg (show ¬ (false = true) by decide)] at H; exact H
         clear H
         have H := H1
         clear H1
         have H' := Aside0.mk H
         clear H
         go_wp2
         go_meet
         case rel => exact ⟨_, (true), (by first | rfl | (simp; done) | (simp [*]; done)), H', ⟨by have := HJ6.out; first | omega | exact Nat.le_refl _⟩, ⟨by (with_reducible repeat (first | apply Kd.R_alloc | apply Kd.R_drewN | apply Kd.R_drew)); exact Kd.R_mono HO_5.out (fun _ hk => hk.2)⟩, ⟨by (with_reducible repeat (first | refine blk_drewN ?_ _ | refine blk_drew ?_ | refine blk_alloc ?_ _)); exact BK824.out⟩, ⟨by repeat (first | (with_reducible first | exact HB.out | apply below_alloc | apply pw_below_drewN | apply below_drew1 | refine below_set ?_ GE824.out) | exact HB.out)⟩⟩
        subst c30
        have H1 : (if t837 = true then (if t836 = (wrap64 ((wrap64 (t834 + t823)) - t822)) then ((impl_IsValidPlan.f kj6 t825).bind fun t838 => (laws_FnDuties.j1 kj6 l0 t825 (!t838) t821 t822 t823)) else (laws_FnDuties.j1 kj6 l0 t825 true t821 t822 t823)) else (laws_FnDuties.j1 kj6 l0 t825 true t821 t822 t823)) = some r := by rw [if_pos rfl] at H; exact H
        clear H
        have H := H1
        clear H1
        by_cases c31 : t837 = true
        rotate_left
        ·
         replace c31 := Bool.eq_false_iff.mpr c31
         subst c31
         have H1 : (laws_FnDuties.j1 kj6 l0 t825 true t821 t822 t823) = some r := by rw [if_neg (show ¬ (false = true) by decide)] at H; exact H
         clear H
         have H := H1
         clear H1
         have H' := Aside0.mk H
         clear H
         go_wp2
         go_meet
         case rel => exact ⟨_, (true), (by first | rfl | (simp; done) | (simp [*]; done)), H', ⟨by have := HJ6.out; first | omega | exact Nat.le_refl _⟩, ⟨by (with_reducible repeat (first | apply Kd.R_alloc | apply Kd.R_drewN | apply Kd.R_drew)); exact Kd.R_mono HO_5.out (fun _ hk => hk.2)⟩, ⟨by (with_reducible repeat (first | refine blk_drewN ?_ _ | refine blk_drew ?_ | refine blk_alloc ?_ _)); exact BK824.out⟩, ⟨by repeat (first | (with_reducible first | exact HB.out | apply below_alloc | apply pw_below_drewN | apply below_drew1 | refine below_set ?_ GE824.out) | exact HB.out)⟩⟩
        subst c31
        have H1 : (if t836 = (wrap64 ((wrap64 (t834 + t823)) - t822)) then ((impl_IsValidPlan.f kj6 t825).bind fun t838 => (laws_FnDuties.j1 kj6 l0 t825 (!t838) t821 t822 t823)) else (laws_FnDuties.j1 kj6 l0 t825 true t821 t822 t823)) = some r := by rw [if_pos rfl] at H; exact H
        clear H
        have H := H1
        clear H1
        by_cases c32 : t836 = (wrap64 ((wrap64 (t834 + t823)) - t822))
        rotate_left
        ·
         rw [if_neg c32] at H
         have c32b0 : (t836 == (wrap64 ((wrap64 (t834 + t823)) - t822))) = false := beq_eq_false_iff_ne.mpr c32
         have c32b1 : (t836 != (wrap64 ((wrap64 (t834 + t823)) - t822))) = true := bne_iff_ne.mpr c32
         (first | rw [c32b0] | (simp only [i64_w, i32_w]; rw [c32b0]) | skip)
         have H' := Aside0.mk H
         clear H
         have hcz36_0 : w29.cell? ⟨gb824, 0, none⟩ = some (.int .i64 t821) := (blk_cell BK824.out 0).trans rfl
         have hcz36_1 : w29.cell? ⟨gb824, 1, none⟩ = some (.int .i64 t822) := (blk_cell BK824.out 1).trans rfl
         have hcz36_2 : w29.cell? ⟨gb824, 2, none⟩ = some (.int .i64 t823) := (blk_cell BK824.out 2).trans rfl
         have hfz36_0 := blk_frozen BK824.out 0
         have hfz36_1 := blk_frozen BK824.out 1
         have hfz36_2 := blk_frozen BK824.out 2
         go_wp2
         go_meet
         case rel => exact ⟨_, (true), (by first | rfl | (simp; done) | (simp [*]; done)), H', ⟨by have := HJ6.out; first | omega | exact Nat.le_refl _⟩, ⟨by (with_reducible repeat (first | apply Kd.R_alloc | apply Kd.R_drewN | apply Kd.R_drew)); exact Kd.R_mono HO_5.out (fun _ hk => hk.2)⟩, ⟨by (with_reducible repeat (first | refine blk_drewN ?_ _ | refine blk_drew ?_ | refine blk_alloc ?_ _)); exact BK824.out⟩, ⟨by repeat (first | (with_reducible first | exact HB.out | apply below_alloc | apply pw_below_drewN | apply below_drew1 | refine below_set ?_ GE824.out) | exact HB.out)⟩⟩
        rw [if_pos c32] at H
        have c32b0 : (t836 == (wrap64 ((wrap64 (t834 + t823)) - t822))) = true := beq_iff_eq.mpr c32
        have c32b1 : (t836 != (wrap64 ((wrap64 (t834 + t823)) - t822))) = false := bne_eq_false_iff_eq.mpr c32
        clear c32
        (first | rw [c32b0] | (simp only [i64_w, i32_w]; rw [c32b0]) | skip)
        replace H := Option.bind_eq_some_iff.mp H
        obtain ⟨t838, A330, H⟩ := H
        replace H : (laws_FnDuties.j1 kj6 l0 t825 (!t838) t821 t822 t823) = some r := H
        have A33 := Aside0.mk A330
        clear A330
        have H' := Aside0.mk H
        clear H
        have hcz34_0 : w29.cell? ⟨gb824, 0, none⟩ = some (.int .i64 t821) := (blk_cell BK824.out 0).trans rfl
        have hcz34_1 : w29.cell? ⟨gb824, 1, none⟩ = some (.int .i64 t822) := (blk_cell BK824.out 1).trans rfl
        have hcz34_2 : w29.cell? ⟨gb824, 2, none⟩ = some (.int .i64 t823) := (blk_cell BK824.out 2).trans rfl
        have hfz34_0 := blk_frozen BK824.out 0
        have hfz34_1 := blk_frozen BK824.out 1
        have hfz34_2 := blk_frozen BK824.out 2
        go_wp2_with (first | (go_at_call 17; (with_reducible refine (impl_IsValidPlan.calls kj6 _ _ t825 t838 _ ?side1 ?side2 A33.out).mono ?_); (case side1 => repeat (first | exact (Kd.R_reads' HO_5.out).2.2 | (with_reducible refine Kd.C_alloc ?_ _) | (with_reducible refine Kd.C_drewN ?_ _) | (with_reducible refine Kd.C_drew ?_))); (case side2 => exact (Kd.R_reads' HO_5.out).2.1); rintro e w35 ⟨rfl, hb⟩; have n0_ := Aside0.mk (Kd.R_below (by (with_reducible repeat (first | apply Kd.R_alloc | apply Kd.R_drewN | apply Kd.R_drew)); exact HO_3.out) hb); have n1_ := Aside0.mk (Kd.R_below (by (with_reducible repeat (first | apply Kd.R_alloc | apply Kd.R_drewN | apply Kd.R_drew)); exact HO_5.out) hb); have n2_ := Aside0.mk (blk_below (g := gb824) (o := .cells #[.int .i64 t821, .int .i64 t822, .int .i64 t823] 44 (0, 0)) BK824.out hb); have n3_ := Aside0.mk (below_step (by repeat (first | (with_reducible first | exact HB.out | apply below_alloc | apply pw_below_drewN | apply below_drew1 | refine below_set ?_ GE824.out) | exact HB.out)) hb); clear HO_3 HO_5 BK824 HB; have HO_3 := n0_; have HO_5 := n1_; have BK824 := n2_; have HB := n3_; clear n0_ n1_ n2_ n3_; (try clear hb hb2 hk hi)))
        go_meet
        case rel => exact ⟨_, (!t838), (by first | rfl | (simp; done) | (simp [*]; done)), H', ⟨by have := HJ6.out; first | omega | exact Nat.le_refl _⟩, ⟨by (with_reducible repeat (first | apply Kd.R_alloc | apply Kd.R_drewN | apply Kd.R_drew)); exact Kd.R_mono HO_5.out (fun _ hk => hk.2)⟩, ⟨by (with_reducible repeat (first | refine blk_drewN ?_ _ | refine blk_drew ?_ | refine blk_alloc ?_ _)); exact BK824.out⟩, ⟨by repeat (first | (with_reducible first | exact HB.out | apply below_alloc | apply pw_below_drewN | apply below_drew1 | refine below_set ?_ GE824.out) | exact HB.out)⟩⟩
      case rest =>
       as_aux_lemma =>
        clear HC24
        try clear c1
        try clear c2
        try clear p2
        try clear c3
        try clear c4
        try clear p6
        try clear c12
        try clear c15
        try clear c15b0
        try clear c15b1
        try clear c15b2
        try clear c19
        try clear c20
        try clear c21
        try clear c30
        try clear c31
        try clear c32
        try clear c32b0
        try clear c32b1
        try clear c33
        try clear hcz10_0
        try clear hcz10_1
        try clear hcz10_2
        try clear hcz13_0
        try clear hcz13_1
        try clear hcz13_2
        try clear hcz25_0
        try clear hcz25_1
        try clear hcz25_2
        try clear hcz27_0
        try clear hcz27_1
        try clear hcz27_2
        try clear hcz34_0
        try clear hcz34_1
        try clear hcz34_2
        try clear hcz36_0
        try clear hcz36_1
        try clear hcz36_2
        try clear hfz10_0
        try clear hfz10_1
        try clear hfz10_2
        try clear hfz13_0
        try clear hfz13_1
        try clear hfz13_2
        try clear hfz25_0
        try clear hfz25_1
        try clear hfz25_2
        try clear hfz27_0
        try clear hfz27_1
        try clear hfz27_2
        try clear hfz34_0
        try clear hfz34_1
        try clear hfz34_2
        try clear hfz36_0
        try clear hfz36_1
        try clear hfz36_2
        try clear p2
        obtain ⟨kq, x98_23, rfl, HA, HJ23, HO_5, BK824, HB⟩ := hcut
        cases kq with
        | zero => exact absurd HA.out (by simp [laws_FnDuties.j1])
        | succ kj23 =>
         have H := HA.out
         clear HA
         simp only [laws_FnDuties.j1] at H
         by_cases c37 : x98_23 = true
         ·
          subst c37
          have H1 : (some false) = some r := by rw [if_pos rfl] at H; exact H
          exact absurd ((Option.some.inj H1).trans hrt_) (by decide)
         replace c37 := Bool.eq_false_iff.mpr c37
         subst c37
         have H1 : (laws_FnDuties.l0 kj23 l0 t825 t822 t821 t822 t823) = some r := by rw [if_neg (show ¬ (false = true) by decide)] at H; exact H
         clear H
         have H := H1
         clear H1
         have H' := Aside0.mk H
         clear H
         have hcz38_0 : wc.cell? ⟨gb824, 0, none⟩ = some (.int .i64 t821) := (blk_cell BK824.out 0).trans rfl
         have hcz38_1 : wc.cell? ⟨gb824, 1, none⟩ = some (.int .i64 t822) := (blk_cell BK824.out 1).trans rfl
         have hcz38_2 : wc.cell? ⟨gb824, 2, none⟩ = some (.int .i64 t823) := (blk_cell BK824.out 2).trans rfl
         have hfz38_0 := blk_frozen BK824.out 0
         have hfz38_1 := blk_frozen BK824.out 1
         have hfz38_2 := blk_frozen BK824.out 2
         go_wp2
         go_loopg [13] kj23 (fun kq v13 w' => ∃ (x13_3 : Int), v13 = .int .i64 x13_3 ∧ Aside0 (laws_FnDuties.l0 kq l0 t825 x13_3 t821 t822 t823 = some r) ∧ Aside0 (kq ≤ kj23) ∧ Aside0 (Kd.R k44 44 w' w.heap.size (fun k_ => k_ ≠ gb824) (.slice Ao28 t825.length co28) t825) ∧ Aside0 (w'.heap[gb824]? = some (.cells #[.int .i64 t821, .int .i64 t822, .int .i64 t823] 44 (0, 0))) ∧ Aside0 (Below w.heap.size w w'))
         case atStart => exact ⟨(t822), (by first | rfl | (simp; done) | (simp [*]; done)), H', ⟨Nat.le_refl _⟩, ⟨by (with_reducible repeat (first | apply Kd.R_alloc | apply Kd.R_drewN | apply Kd.R_drew)); exact HO_5.out⟩, ⟨by (with_reducible repeat (first | refine blk_drewN ?_ _ | refine blk_drew ?_ | refine blk_alloc ?_ _)); exact BK824.out⟩, ⟨by repeat (first | (with_reducible first | exact HB.out | apply below_alloc | apply pw_below_drewN | apply below_drew1 | refine below_set ?_ GE824.out) | exact HB.out)⟩⟩
         case round =>
          as_aux_lemma =>
           clear H'
           try clear c1
           try clear c2
           try clear p2
           try clear c3
           try clear c4
           try clear p6
           try clear c12
           try clear c15
           try clear c15b0
           try clear c15b1
           try clear c15b2
           try clear c19
           try clear c20
           try clear c21
           try clear c30
           try clear c31
           try clear c32
           try clear c32b0
           try clear c32b1
           try clear c33
           try clear c37
           try clear hcz10_0
           try clear hcz10_1
           try clear hcz10_2
           try clear hcz13_0
           try clear hcz13_1
           try clear hcz13_2
           try clear hcz25_0
           try clear hcz25_1
           try clear hcz25_2
           try clear hcz27_0
           try clear hcz27_1
           try clear hcz27_2
           try clear hcz34_0
           try clear hcz34_1
           try clear hcz34_2
           try clear hcz36_0
           try clear hcz36_1
           try clear hcz36_2
           try clear hcz38_0
           try clear hcz38_1
           try clear hcz38_2
           try clear hfz10_0
           try clear hfz10_1
           try clear hfz10_2
           try clear hfz13_0
           try clear hfz13_1
           try clear hfz13_2
           try clear hfz25_0
           try clear hfz25_1
           try clear hfz25_2
           try clear hfz27_0
           try clear hfz27_1
           try clear hfz27_2
           try clear hfz34_0
           try clear hfz34_1
           try clear hfz34_2
           try clear hfz36_0
           try clear hfz36_1
           try clear hfz36_2
           try clear hfz38_0
           try clear hfz38_1
           try clear hfz38_2
           try clear p2
           try clear p6
           obtain ⟨x13_3, rfl, HA, HK3, HO_5, BK824, HB⟩ := hrel
           cases gk with
           | zero => exact absurd HA.out (by simp [laws_FnDuties.l0])
           | succ k3 =>
            have H := HA.out
            clear HA
            simp only [laws_FnDuties.l0] at H
            by_cases c39 : x13_3 < t823
            rotate_left
            ·
             rw [if_neg c39] at H
             have c39b0 : decide (x13_3 < t823) = false := decide_eq_false c39
             clear c39
             have H' := Aside0.mk H
             clear H
             have hcz54_0 : wr.cell? ⟨gb824, 0, none⟩ = some (.int .i64 t821) := (blk_cell BK824.out 0).trans rfl
             have hcz54_1 : wr.cell? ⟨gb824, 1, none⟩ = some (.int .i64 t822) := (blk_cell BK824.out 1).trans rfl
             have hcz54_2 : wr.cell? ⟨gb824, 2, none⟩ = some (.int .i64 t823) := (blk_cell BK824.out 2).trans rfl
             have hfz54_0 := blk_frozen BK824.out 0
             have hfz54_1 := blk_frozen BK824.out 1
             have hfz54_2 := blk_frozen BK824.out 2
             go_wp2
             go_meet
             case rel => exact ⟨_, H', ⟨by have := HJ6.out; have := HJ23.out; have := HK3.out; first | omega | exact Nat.le_refl _⟩, ⟨by (with_reducible repeat (first | refine blk_drewN ?_ _ | refine blk_drew ?_ | refine blk_alloc ?_ _)); exact BK824.out⟩, ⟨by repeat (first | (with_reducible first | exact HB.out | apply below_alloc | apply pw_below_drewN | apply below_drew1 | refine below_set ?_ GE824.out) | exact HB.out)⟩⟩
            rw [if_pos c39] at H
            have c39b0 : decide (x13_3 < t823) = true := decide_eq_true c39
            clear c39
            replace H := Option.bind_eq_some_iff.mp H
            obtain ⟨⟨t839, t840⟩, A400, H⟩ := H
            replace H : (if t840 = true then ((laws_rHas.f k3 t839 t821).bind fun t843 => (if t843 = true then (laws_FnDuties.l0 k3 l0 t825 (wrap64 (x13_3 + 1)) t821 t822 t823) else (some false))) else (some false)) = some r := H
            have A40 := Aside0.mk A400
            clear A400
            by_cases c41 : t840 = true
            rotate_left
            ·
             replace c41 := Bool.eq_false_iff.mpr c41
             subst c41
             have H1 : (some false) = some r := by rw [if_neg (show ¬ (false = true) by decide)] at H; exact H
             exact absurd ((Option.some.inj H1).trans hrt_) (by decide)
            subst c41
            have H1 : ((laws_rHas.f k3 t839 t821).bind fun t843 => (if t843 = true then (laws_FnDuties.l0 k3 l0 t825 (wrap64 (x13_3 + 1)) t821 t822 t823) else (some false))) = some r := by rw [if_pos rfl] at H; exact H
            clear H
            have H := H1
            clear H1
            replace H := Option.bind_eq_some_iff.mp H
            obtain ⟨t843, A420, H⟩ := H
            replace H : (if t843 = true then (laws_FnDuties.l0 k3 l0 t825 (wrap64 (x13_3 + 1)) t821 t822 t823) else (some false)) = some r := H
            have A42 := Aside0.mk A420
            clear A420
            by_cases c43 : t843 = true
            rotate_left
            ·
             replace c43 := Bool.eq_false_iff.mpr c43
             subst c43
             have H1 : (some false) = some r := by rw [if_neg (show ¬ (false = true) by decide)] at H; exact H
             exact absurd ((Option.some.inj H1).trans hrt_) (by decide)
            subst c43
            have H1 : (laws_FnDuties.l0 k3 l0 t825 (wrap64 (x13_3 + 1)) t821 t822 t823) = some r := by rw [if_pos rfl] at H; exact H
            clear H
            have H := H1
            clear H1
            have H' := Aside0.mk H
            clear H
            have hcz44_0 : wr.cell? ⟨gb824, 0, none⟩ = some (.int .i64 t821) := (blk_cell BK824.out 0).trans rfl
            have hcz44_1 : wr.cell? ⟨gb824, 1, none⟩ = some (.int .i64 t822) := (blk_cell BK824.out 1).trans rfl
            have hcz44_2 : wr.cell? ⟨gb824, 2, none⟩ = some (.int .i64 t823) := (blk_cell BK824.out 2).trans rfl
            have hfz44_0 := blk_frozen BK824.out 0
            have hfz44_1 := blk_frozen BK824.out 1
            have hfz44_2 := blk_frozen BK824.out 2
            go_wp2_with (first | ((with_reducible refine gate_callee (f := 38) rfl ?_); refine goesL_ (some 110) rfl rfl Try.func38 (by kernel_rfl) rfl #[.slice Ao28 t825.length co28, .int .i64 x13_3] rfl (by (try simp only [List.map_toArray, List.map_cons, List.map_nil]); first | done | rfl | (simp only [List.length_drop, List.length_take]; rfl)) ?_; (with_reducible refine (impl_OnDuty.calls k3 _ _ t825 x13_3 t839 true _ ?side1 ?side2 A40.out).mono ?_); (case side1 => repeat (first | exact (Kd.R_reads' HO_5.out).2.2 | (with_reducible refine Kd.C_alloc ?_ _) | (with_reducible refine Kd.C_drewN ?_ _) | (with_reducible refine Kd.C_drew ?_))); (case side2 => exact (Kd.R_reads' HO_5.out).2.1); rintro e w45 ⟨v841, rfl, ho0, hb⟩; refine ⟨_, rfl, ?_⟩; have n0_ := Aside0.mk (Kd.R_below (by (with_reducible repeat (first | apply Kd.R_alloc | apply Kd.R_drewN | apply Kd.R_drew)); exact HO_5.out) hb); have n1_ := Aside0.mk (Kd.R_lower ho0 (below_size (by repeat (first | (with_reducible first | exact HB.out | apply below_alloc | apply pw_below_drewN | apply below_drew1 | refine below_set ?_ GE824.out) | exact HB.out)))); have n2_ := Aside0.mk (blk_below (g := gb824) (o := .cells #[.int .i64 t821, .int .i64 t822, .int .i64 t823] 44 (0, 0)) BK824.out hb); have n3_ := Aside0.mk (below_step (by repeat (first | (with_reducible first | exact HB.out | apply below_alloc | apply pw_below_drewN | apply below_drew1 | refine below_set ?_ GE824.out) | exact HB.out)) hb); clear HO_5 BK824 HB; have HO_5 := n0_; have HO842 := n1_; have BK824 := n2_; have HB := n3_; clear n0_ n1_ n2_ n3_; (try clear hb hb2 hk hi); (try clear ho0); have hcz46_0 : w45.cell? ⟨gb824, 0, none⟩ = some (.int .i64 t821) := (blk_cell BK824.out 0).trans rfl; have hcz46_1 : w45.cell? ⟨gb824, 1, none⟩ = some (.int .i64 t822) := (blk_cell BK824.out 1).trans rfl; have hcz46_2 : w45.cell? ⟨gb824, 2, none⟩ = some (.int .i64 t823) := (blk_cell BK824.out 2).trans rfl; have hfz46_0 := blk_frozen BK824.out 0; have hfz46_1 := blk_frozen BK824.out 1; have hfz46_2 := blk_frozen BK824.out 2; obtain ⟨Ao47, co47, eo47⟩ := Kd.R_slice HO842.out; subst eo47) | (go_at_call 44; (with_reducible refine (laws_rHas.calls k3 _ _ t839 t821 true _ ?side1 ?side2 A42.out).mono ?_); (case side1 => repeat (first | exact (Kd.R_reads' HO842.out).2.2 | (with_reducible refine Kd.C_alloc ?_ _) | (with_reducible refine Kd.C_drewN ?_ _) | (with_reducible refine Kd.C_drew ?_))); (case side2 => exact (Kd.R_reads' HO842.out).2.1); rintro e w' ⟨rfl, ⟨nd, rfl⟩⟩))
            go_roundg k3
            case measure => have := HJ6.out; have := HJ23.out; have := HK3.out; omega
            case rel => exact ⟨(wrap64 (x13_3 + 1)), (by first | rfl | (simp; done) | (simp [*]; done)), H', ⟨by have := HJ6.out; have := HJ23.out; have := HK3.out; omega⟩, ⟨by (with_reducible repeat (first | apply Kd.R_alloc | apply Kd.R_drewN | apply Kd.R_drew)); exact HO_5.out⟩, ⟨by (with_reducible repeat (first | refine blk_drewN ?_ _ | refine blk_drew ?_ | refine blk_alloc ?_ _)); exact BK824.out⟩, ⟨by repeat (first | (with_reducible first | exact HB.out | apply below_alloc | apply pw_below_drewN | apply below_drew1 | refine below_set ?_ GE824.out) | exact HB.out)⟩⟩
    case rest =>
     as_aux_lemma =>
      clear HC20
      try clear c1
      try clear c2
      try clear p2
      try clear c3
      try clear c4
      try clear p6
      try clear c12
      try clear c15
      try clear c15b0
      try clear c15b1
      try clear c15b2
      try clear c19
      try clear c20
      try clear c21
      try clear c30
      try clear c31
      try clear c32
      try clear c32b0
      try clear c32b1
      try clear c33
      try clear c37
      try clear c38
      try clear c39
      try clear c39b0
      try clear c41
      try clear c42
      try clear c43
      try clear hcz10_0
      try clear hcz10_1
      try clear hcz10_2
      try clear hcz13_0
      try clear hcz13_1
      try clear hcz13_2
      try clear hcz25_0
      try clear hcz25_1
      try clear hcz25_2
      try clear hcz27_0
      try clear hcz27_1
      try clear hcz27_2
      try clear hcz34_0
      try clear hcz34_1
      try clear hcz34_2
      try clear hcz36_0
      try clear hcz36_1
      try clear hcz36_2
      try clear hcz38_0
      try clear hcz38_1
      try clear hcz38_2
      try clear hcz44_0
      try clear hcz44_1
      try clear hcz44_2
      try clear hcz46_0
      try clear hcz46_1
      try clear hcz46_2
      try clear hcz48_0
      try clear hcz48_1
      try clear hcz48_2
      try clear hcz50_0
      try clear hcz50_1
      try clear hcz50_2
      try clear hcz52_0
      try clear hcz52_1
      try clear hcz52_2
      try clear hcz54_0
      try clear hcz54_1
      try clear hcz54_2
      try clear hfz10_0
      try clear hfz10_1
      try clear hfz10_2
      try clear hfz13_0
      try clear hfz13_1
      try clear hfz13_2
      try clear hfz25_0
      try clear hfz25_1
      try clear hfz25_2
      try clear hfz27_0
      try clear hfz27_1
      try clear hfz27_2
      try clear hfz34_0
      try clear hfz34_1
      try clear hfz34_2
      try clear hfz36_0
      try clear hfz36_1
      try clear hfz36_2
      try clear hfz38_0
      try clear hfz38_1
      try clear hfz38_2
      try clear hfz44_0
      try clear hfz44_1
      try clear hfz44_2
      try clear hfz46_0
      try clear hfz46_1
      try clear hfz46_2
      try clear hfz48_0
      try clear hfz48_1
      try clear hfz48_2
      try clear hfz50_0
      try clear hfz50_1
      try clear hfz50_2
      try clear hfz52_0
      try clear hfz52_1
      try clear hfz52_2
      try clear hfz54_0
      try clear hfz54_1
      try clear hfz54_2
      try clear p2
      try clear p6
      obtain ⟨kq, HA, HJ19, BK824, HB⟩ := hcut
      cases kq with
      | zero => exact absurd HA.out (by simp [laws_FnDuties.j3])
      | succ kj19 =>
       have H := HA.out
       clear HA
       simp only [laws_FnDuties.j3] at H
       replace H := Option.bind_eq_some_iff.mp H
       obtain ⟨⟨t844, t845, t846, t847⟩, A550, H⟩ := H
       replace H : ((impl_NextFree.f kj19 t844 t845 t846 t847).bind fun bt850 => ((spec_NextFree.f kj19 t844 t845 t846 t847).bind fun bt852 => (if bt850.1 = bt852.1 then (laws_FnDuties.j4 kj19 l0 t844 t845 t846 t847 bt850.1 bt850.2 (bt850.2 != bt852.2)) else (laws_FnDuties.j4 kj19 l0 t844 t845 t846 t847 bt850.1 bt850.2 true)))) = some r := H
       have A55 := Aside0.mk A550
       clear A550
       replace H := Option.bind_eq_some_iff.mp H
       obtain ⟨⟨t850, t851⟩, A560, H⟩ := H
       replace H : ((spec_NextFree.f kj19 t844 t845 t846 t847).bind fun bt852 => (if t850 = bt852.1 then (laws_FnDuties.j4 kj19 l0 t844 t845 t846 t847 t850 t851 (t851 != bt852.2)) else (laws_FnDuties.j4 kj19 l0 t844 t845 t846 t847 t850 t851 true))) = some r := H
       have A56 := Aside0.mk A560
       clear A560
       replace H := Option.bind_eq_some_iff.mp H
       obtain ⟨⟨t852, t853⟩, A570, H⟩ := H
       replace H : (if t850 = t852 then (laws_FnDuties.j4 kj19 l0 t844 t845 t846 t847 t850 t851 (t851 != t853)) else (laws_FnDuties.j4 kj19 l0 t844 t845 t846 t847 t850 t851 true)) = some r := H
       have A57 := Aside0.mk A570
       clear A570
       have HC58 := Aside0.mk H
       clear H
       go_upto_region 22 with (first | ((with_reducible refine gate_callee (f := 45) rfl ?_); refine goesL_ (some 124) rfl rfl Try.func45 (by kernel_rfl) rfl #[.slice A0 l0.length c0] rfl (by (try simp only [List.map_toArray, List.map_cons, List.map_nil]); first | done | rfl | (simp only [List.length_drop, List.length_take]; rfl)) ?_; (with_reducible refine (spec_DrawNextFree.calls kj19 _ _ l0 t844 t845 t846 t847 _ ?side1 ?side2 A55.out).mono ?_); (case side1 => repeat (first | exact (Kd.C_below HR0.out HB.out) | (with_reducible refine Kd.C_alloc ?_ _) | (with_reducible refine Kd.C_drewN ?_ _) | (with_reducible refine Kd.C_drew ?_))); (case side2 => exact HC0.out); rintro e w59 ⟨v848, rfl, ho0, hb⟩; refine ⟨_, rfl, ?_⟩; have n0_ := Aside0.mk (Kd.R_lower (Kd.R_newB ho0 (g := gb824) (o := .cells #[.int .i64 t821, .int .i64 t822, .int .i64 t823] 44 (0, 0)) BK824.out) (below_size (by repeat (first | (with_reducible first | exact HB.out | apply below_alloc | apply pw_below_drewN | apply below_drew1 | refine below_set ?_ GE824.out) | exact HB.out)))); have n1_ := Aside0.mk (blk_below (g := gb824) (o := .cells #[.int .i64 t821, .int .i64 t822, .int .i64 t823] 44 (0, 0)) BK824.out hb); have n2_ := Aside0.mk (below_step (by repeat (first | (with_reducible first | exact HB.out | apply below_alloc | apply pw_below_drewN | apply below_drew1 | refine below_set ?_ GE824.out) | exact HB.out)) hb); clear BK824 HB; have HO849 := n0_; have BK824 := n1_; have HB := n2_; clear n0_ n1_ n2_; (try clear hb hb2 hk hi); (try clear ho0); obtain ⟨Ao60, co60, eo60⟩ := Kd.R_slice HO849.out; subst eo60) | ((with_reducible refine gate_callee (f := 30) rfl ?_); refine goesL_ (some 134) rfl rfl Try.func30 (by kernel_rfl) rfl #[.slice Ao60 t844.length co60, .int .i64 t845, .int .i64 t846, .int .i64 t847] rfl (by (try simp only [List.map_toArray, List.map_cons, List.map_nil]); first | done | rfl | (simp only [List.length_drop, List.length_take]; rfl)) ?_; (with_reducible refine (impl_NextFree.calls kj19 _ _ t844 t845 t846 t847 t850 t851 _ ?side1 ?side2 A56.out).mono ?_); (case side1 => repeat (first | exact (Kd.R_reads' HO849.out).2.2 | (with_reducible refine Kd.C_alloc ?_ _) | (with_reducible refine Kd.C_drewN ?_ _) | (with_reducible refine Kd.C_drew ?_))); (case side2 => exact (Kd.R_reads' HO849.out).2.1); rintro e w61 ⟨rfl, hb⟩; refine ⟨_, rfl, ?_⟩; have n0_ := Aside0.mk (Kd.R_below (by (with_reducible repeat (first | apply Kd.R_alloc | apply Kd.R_drewN | apply Kd.R_drew)); exact HO849.out) hb); have n1_ := Aside0.mk (blk_below (g := gb824) (o := .cells #[.int .i64 t821, .int .i64 t822, .int .i64 t823] 44 (0, 0)) BK824.out hb); have n2_ := Aside0.mk (below_step (by repeat (first | (with_reducible first | exact HB.out | apply below_alloc | apply pw_below_drewN | apply below_drew1 | refine below_set ?_ GE824.out) | exact HB.out)) hb); clear HO849 BK824 HB; have HO849 := n0_; have BK824 := n1_; have HB := n2_; clear n0_ n1_ n2_; (try clear hb hb2 hk hi)) | ((with_reducible refine gate_callee (f := 29) rfl ?_); refine goesL_ (some 142) rfl rfl Try.func29 (by kernel_rfl) rfl #[.slice Ao60 t844.length co60, .int .i64 t845, .int .i64 t846, .int .i64 t847] rfl (by (try simp only [List.map_toArray, List.map_cons, List.map_nil]); first | done | rfl | (simp only [List.length_drop, List.length_take]; rfl)) ?_; (with_reducible refine (spec_NextFree.calls kj19 _ _ t844 t845 t846 t847 t852 t853 _ ?side1 ?side2 A57.out).mono ?_); (case side1 => repeat (first | exact (Kd.R_reads' HO849.out).2.2 | (with_reducible refine Kd.C_alloc ?_ _) | (with_reducible refine Kd.C_drewN ?_ _) | (with_reducible refine Kd.C_drew ?_))); (case side2 => exact (Kd.R_reads' HO849.out).2.1); rintro e w62 ⟨rfl, hb⟩; refine ⟨_, rfl, ?_⟩; have n0_ := Aside0.mk (Kd.R_below (by (with_reducible repeat (first | apply Kd.R_alloc | apply Kd.R_drewN | apply Kd.R_drew)); exact HO849.out) hb); have n1_ := Aside0.mk (blk_below (g := gb824) (o := .cells #[.int .i64 t821, .int .i64 t822, .int .i64 t823] 44 (0, 0)) BK824.out hb); have n2_ := Aside0.mk (below_step (by repeat (first | (with_reducible first | exact HB.out | apply below_alloc | apply pw_below_drewN | apply below_drew1 | refine below_set ?_ GE824.out) | exact HB.out)) hb); clear HO849 BK824 HB; have HO849 := n0_; have BK824 := n1_; have HB := n2_; clear n0_ n1_ n2_; (try clear hb hb2 hk hi)))
       (try simp only [Act.put, List.setIfInBounds_toArray, List.set_cons_zero, List.set_cons_succ])
       go_cut [152] (fun v152 wc => ∃ (kq : Nat) (x152_57 : Bool), v152 = .bool x152_57 ∧ Aside0 (laws_FnDuties.j4 kq l0 t844 t845 t846 t847 t850 t851 x152_57 = some r) ∧ Aside0 (kq ≤ kj19) ∧ Aside0 (Kd.R k44 44 wc w.heap.size (fun k_ => k_ ≠ gb824) (.slice Ao60 t844.length co60) t844) ∧ Aside0 (wc.heap[gb824]? = some (.cells #[.int .i64 t821, .int .i64 t822, .int .i64 t823] 44 (0, 0))) ∧ Aside0 (Below w.heap.size w wc))
       case first =>
        as_aux_lemma =>
         have H := HC58.out
         clear HC58
         by_cases c63 : t850 = t852
         rotate_left
         ·
          rw [if_neg c63] at H
          have c63b0 : (t850 == t852) = false := beq_eq_false_iff_ne.mpr c63
          have c63b1 : (t850 != t852) = true := bne_iff_ne.mpr c63
          (first | rw [c63b0] | (simp only [i64_w, i32_w]; rw [c63b0]) | skip)
          have H' := Aside0.mk H
          clear H
          go_wp2
          go_meet
          case rel => exact ⟨_, (true), (by first | rfl | (simp; done) | (simp [*]; done)), H', ⟨by have := HJ6.out; have := HJ19.out; first | omega | exact Nat.le_refl _⟩, ⟨by (with_reducible repeat (first | apply Kd.R_alloc | apply Kd.R_drewN | apply Kd.R_drew)); exact Kd.R_mono HO849.out (fun _ hk => hk.2)⟩, ⟨by (with_reducible repeat (first | refine blk_drewN ?_ _ | refine blk_drew ?_ | refine blk_alloc ?_ _)); exact BK824.out⟩, ⟨by repeat (first | (with_reducible first | exact HB.out | apply below_alloc | apply pw_below_drewN | apply below_drew1 | refine below_set ?_ GE824.out) | exact HB.out)⟩⟩
         rw [if_pos c63] at H
         have c63b0 : (t850 == t852) = true := beq_iff_eq.mpr c63
         have c63b1 : (t850 != t852) = false := bne_eq_false_iff_eq.mpr c63
         clear c63
         (first | rw [c63b0] | (simp only [i64_w, i32_w]; rw [c63b0]) | skip)
         have H' := Aside0.mk H
         clear H
         go_wp2
         go_meet
         case rel => exact ⟨_, ((t851 != t853)), (by first | rfl | (simp; done) | (simp [*]; done)), H', ⟨by have := HJ6.out; have := HJ19.out; first | omega | exact Nat.le_refl _⟩, ⟨by (with_reducible repeat (first | apply Kd.R_alloc | apply Kd.R_drewN | apply Kd.R_drew)); exact Kd.R_mono HO849.out (fun _ hk => hk.2)⟩, ⟨by (with_reducible repeat (first | refine blk_drewN ?_ _ | refine blk_drew ?_ | refine blk_alloc ?_ _)); exact BK824.out⟩, ⟨by repeat (first | (with_reducible first | exact HB.out | apply below_alloc | apply pw_below_drewN | apply below_drew1 | refine below_set ?_ GE824.out) | exact HB.out)⟩⟩
       case rest =>
        as_aux_lemma =>
         clear HC58
         try clear c1
         try clear c2
         try clear p2
         try clear c3
         try clear c4
         try clear c6
         try clear p6
         try clear c12
         try clear c15
         try clear c15b0
         try clear c15b1
         try clear c15b2
         try clear c19
         try clear c20
         try clear c21
         try clear c29
         try clear c30
         try clear c31
         try clear c32
         try clear c32b0
         try clear c32b1
         try clear c33
         try clear c37
         try clear c38
         try clear c39
         try clear c39b0
         try clear c41
         try clear c42
         try clear c43
         try clear c45
         try clear c63
         try clear c63b0
         try clear c63b1
         try clear hcz10_0
         try clear hcz10_1
         try clear hcz10_2
         try clear hcz13_0
         try clear hcz13_1
         try clear hcz13_2
         try clear hcz25_0
         try clear hcz25_1
         try clear hcz25_2
         try clear hcz27_0
         try clear hcz27_1
         try clear hcz27_2
         try clear hcz34_0
         try clear hcz34_1
         try clear hcz34_2
         try clear hcz36_0
         try clear hcz36_1
         try clear hcz36_2
         try clear hcz38_0
         try clear hcz38_1
         try clear hcz38_2
         try clear hcz44_0
         try clear hcz44_1
         try clear hcz44_2
         try clear hcz46_0
         try clear hcz46_1
         try clear hcz46_2
         try clear hcz48_0
         try clear hcz48_1
         try clear hcz48_2
         try clear hcz50_0
         try clear hcz50_1
         try clear hcz50_2
         try clear hcz52_0
         try clear hcz52_1
         try clear hcz52_2
         try clear hcz54_0
         try clear hcz54_1
         try clear hcz54_2
         try clear hfz10_0
         try clear hfz10_1
         try clear hfz10_2
         try clear hfz13_0
         try clear hfz13_1
         try clear hfz13_2
         try clear hfz25_0
         try clear hfz25_1
         try clear hfz25_2
         try clear hfz27_0
         try clear hfz27_1
         try clear hfz27_2
         try clear hfz34_0
         try clear hfz34_1
         try clear hfz34_2
         try clear hfz36_0
         try clear hfz36_1
         try clear hfz36_2
         try clear hfz38_0
         try clear hfz38_1
         try clear hfz38_2
         try clear hfz44_0
         try clear hfz44_1
         try clear hfz44_2
         try clear hfz46_0
         try clear hfz46_1
         try clear hfz46_2
         try clear hfz48_0
         try clear hfz48_1
         try clear hfz48_2
         try clear hfz50_0
         try clear hfz50_1
         try clear hfz50_2
         try clear hfz52_0
         try clear hfz52_1
         try clear hfz52_2
         try clear hfz54_0
         try clear hfz54_1
         try clear hfz54_2
         try clear p2
         try clear p6
         obtain ⟨kq, x152_57, rfl, HA, HJ57, HO_16, BK824, HB⟩ := hcut
         cases kq with
         | zero => exact absurd HA.out (by simp [laws_FnDuties.j4])
         | succ kj57 =>
          have H := HA.out
          clear HA
          simp only [laws_FnDuties.j4] at H
          by_cases c64 : x152_57 = true
          ·
           subst c64
           have H1 : (some false) = some r := by rw [if_pos rfl] at H; exact H
           exact absurd ((Option.some.inj H1).trans hrt_) (by decide)
          replace c64 := Bool.eq_false_iff.mpr c64
          subst c64
          have H1 : (if t851 = true then ((impl_AddDuty.f kj57 t844 t845 t850 (wrap64 (t850 + t846))).bind fun bt854 => (if bt854.2 = true then (laws_FnDuties.j5 kj57 l0 t844 t845 t846 t847 t850 (decide (t850 < t847))) else (laws_FnDuties.j5 kj57 l0 t844 t845 t846 t847 t850 true))) else ((spec_DrawShortestRest.f kj57 l0).bind fun bt870 => ((impl_ShortestRest.f kj57 bt870.1 bt870.2).bind fun bt874 => ((spec_ShortestRest.f kj57 bt870.1 bt870.2).bind fun bt876 => (if bt874.1 = bt876.1 then (if (bt874.2 == bt876.2) = true then (if bt874.2 = true then (some (decide (bt874.1 ≥ 11))) else (some true)) else (some false)) else (some false)))))) = some r := by rw [if_neg (show ¬ (false = true) by decide)] at H; exact H
          clear H
          have H := H1
          clear H1
          by_cases c65 : t851 = true
          rotate_left
          ·
           replace c65 := Bool.eq_false_iff.mpr c65
           subst c65
           have H1 : ((spec_DrawShortestRest.f kj57 l0).bind fun bt870 => ((impl_ShortestRest.f kj57 bt870.1 bt870.2).bind fun bt874 => ((spec_ShortestRest.f kj57 bt870.1 bt870.2).bind fun bt876 => (if bt874.1 = bt876.1 then (if (bt874.2 == bt876.2) = true then (if bt874.2 = true then (some (decide (bt874.1 ≥ 11))) else (some true)) else (some false)) else (some false))))) = some r := by rw [if_neg (show ¬ (false = true) by decide)] at H; exact H
           clear H
           have H := H1
           clear H1
           replace H := Option.bind_eq_some_iff.mp H
           obtain ⟨⟨t870, t871⟩, A980, H⟩ := H
           replace H : ((impl_ShortestRest.f kj57 t870 t871).bind fun bt874 => ((spec_ShortestRest.f kj57 t870 t871).bind fun bt876 => (if bt874.1 = bt876.1 then (if (bt874.2 == bt876.2) = true then (if bt874.2 = true then (some (decide (bt874.1 ≥ 11))) else (some true)) else (some false)) else (some false)))) = some r := H
           have A98 := Aside0.mk A980
           clear A980
           replace H := Option.bind_eq_some_iff.mp H
           obtain ⟨⟨t874, t875⟩, A990, H⟩ := H
           replace H : ((spec_ShortestRest.f kj57 t870 t871).bind fun bt876 => (if t874 = bt876.1 then (if (t875 == bt876.2) = true then (if t875 = true then (some (decide (t874 ≥ 11))) else (some true)) else (some false)) else (some false))) = some r := H
           have A99 := Aside0.mk A990
           clear A990
           replace H := Option.bind_eq_some_iff.mp H
           obtain ⟨⟨t876, t877⟩, A1000, H⟩ := H
           replace H : (if t874 = t876 then (if (t875 == t877) = true then (if t875 = true then (some (decide (t874 ≥ 11))) else (some true)) else (some false)) else (some false)) = some r := H
           have A100 := Aside0.mk A1000
           clear A1000
           by_cases c101 : t874 = t876
           rotate_left
           ·
            rw [if_neg c101] at H
            have c101b0 : (t874 == t876) = false := beq_eq_false_iff_ne.mpr c101
            have c101b1 : (t874 != t876) = true := bne_iff_ne.mpr c101
            exact absurd ((Option.some.inj H).trans hrt_) (by decide)
           rw [if_pos c101] at H
           have c101b0 : (t874 == t876) = true := beq_iff_eq.mpr c101
           have c101b1 : (t874 != t876) = false := bne_eq_false_iff_eq.mpr c101
           clear c101
           by_cases c102 : (t875 == t877) = true
           rotate_left
           ·
            rw [if_neg c102] at H
            have c102b0 : (t875 == t877) = false := by simpa using c102
            (try (have c102b1 : decide (t875 = t877) = false := by simpa using c102))
            (try (have c102b2 : (t875 == t877) = false := by simpa using c102))
            (try (have c102b3 : ¬ (t875 = t877) := by simpa using c102))
            clear c102
            exact absurd ((Option.some.inj H).trans hrt_) (by decide)
           rw [if_pos c102] at H
           have c102b0 : (t875 == t877) = true := c102
           (try (have c102b1 : decide (t875 = t877) = true := by simpa using c102))
           (try (have c102b2 : (t875 == t877) = true := by simpa using c102))
           clear c102
           by_cases c103 : t875 = true
           ·
            subst c103
            have H1 : (some (decide (t874 ≥ 11))) = some r := by rw [if_pos rfl] at H; exact H
            clear H
            have H := H1
            clear H1
            obtain rfl := Option.some.inj H
            go_wp2_with (first | ((with_reducible refine gate_callee (f := 46) rfl ?_); refine goesL_ (some 193) rfl rfl Try.func46 (by kernel_rfl) rfl #[.slice A0 l0.length c0] rfl (by (try simp only [List.map_toArray, List.map_cons, List.map_nil]); first | done | rfl | (simp only [List.length_drop, List.length_take]; rfl)) ?_; (with_reducible refine (spec_DrawShortestRest.calls kj57 _ _ l0 t870 t871 _ ?side1 ?side2 A98.out).mono ?_); (case side1 => repeat (first | exact (Kd.C_below HR0.out HB.out) | (with_reducible refine Kd.C_alloc ?_ _) | (with_reducible refine Kd.C_drewN ?_ _) | (with_reducible refine Kd.C_drew ?_))); (case side2 => exact HC0.out); rintro e w104 ⟨v872, rfl, ho0, hb⟩; refine ⟨_, rfl, ?_⟩; have n0_ := Aside0.mk (Kd.R_elder' (by (with_reducible repeat (first | apply Kd.R_alloc | apply Kd.R_drewN | apply Kd.R_drew)); exact HO_16.out) (Kd.R_base ho0) hb); have n1_ := Aside0.mk (Kd.R_lower (Kd.R_newB (Kd.R_new' ho0 (Kd.R_lt (by (with_reducible repeat (first | apply Kd.R_alloc | apply Kd.R_drewN | apply Kd.R_drew)); exact HO_16.out))) (g := gb824) (o := .cells #[.int .i64 t821, .int .i64 t822, .int .i64 t823] 44 (0, 0)) BK824.out) (below_size (by repeat (first | (with_reducible first | exact HB.out | apply below_alloc | apply pw_below_drewN | apply below_drew1 | refine below_set ?_ GE824.out) | exact HB.out)))); have n2_ := Aside0.mk (blk_below (g := gb824) (o := .cells #[.int .i64 t821, .int .i64 t822, .int .i64 t823] 44 (0, 0)) BK824.out hb); have n3_ := Aside0.mk (below_step (by repeat (first | (with_reducible first | exact HB.out | apply below_alloc | apply pw_below_drewN | apply below_drew1 | refine below_set ?_ GE824.out) | exact HB.out)) hb); clear HO_16 BK824 HB; have HO_16 := n0_; have HO873 := n1_; have BK824 := n2_; have HB := n3_; clear n0_ n1_ n2_ n3_; (try clear hb hb2 hk hi); (try clear ho0); obtain ⟨Ao105, co105, eo105⟩ := Kd.R_slice HO873.out; subst eo105) | ((with_reducible refine gate_callee (f := 22) rfl ?_); refine goesL_ (some 199) rfl rfl Try.func22 (by kernel_rfl) rfl #[.slice Ao105 t870.length co105, .int .i64 t871] rfl (by (try simp only [List.map_toArray, List.map_cons, List.map_nil]); first | done | rfl | (simp only [List.length_drop, List.length_take]; rfl)) ?_; (with_reducible refine (impl_ShortestRest.calls kj57 _ _ t870 t871 t874 true _ ?side1 ?side2 A99.out).mono ?_); (case side1 => repeat (first | exact (Kd.R_reads' HO873.out).2.2 | (with_reducible refine Kd.C_alloc ?_ _) | (with_reducible refine Kd.C_drewN ?_ _) | (with_reducible refine Kd.C_drew ?_))); (case side2 => exact (Kd.R_reads' HO873.out).2.1); rintro e w106 ⟨rfl, hb⟩; refine ⟨_, rfl, ?_⟩; have n0_ := Aside0.mk (Kd.R_below (by (with_reducible repeat (first | apply Kd.R_alloc | apply Kd.R_drewN | apply Kd.R_drew)); exact HO_16.out) hb); have n1_ := Aside0.mk (Kd.R_below (by (with_reducible repeat (first | apply Kd.R_alloc | apply Kd.R_drewN | apply Kd.R_drew)); exact HO873.out) hb); have n2_ := Aside0.mk (blk_below (g := gb824) (o := .cells #[.int .i64 t821, .int .i64 t822, .int .i64 t823] 44 (0, 0)) BK824.out hb); have n3_ := Aside0.mk (below_step (by repeat (first | (with_reducible first | exact HB.out | apply below_alloc | apply pw_below_drewN | apply below_drew1 | refine below_set ?_ GE824.out) | exact HB.out)) hb); clear HO_16 HO873 BK824 HB; have HO_16 := n0_; have HO873 := n1_; have BK824 := n2_; have HB := n3_; clear n0_ n1_ n2_ n3_; (try clear hb hb2 hk hi)) | ((with_reducible refine gate_callee (f := 21) rfl ?_); refine goesL_ (some 205) rfl rfl Try.func21 (by kernel_rfl) rfl #[.slice Ao105 t870.length co105, .int .i64 t871] rfl (by (try simp only [List.map_toArray, List.map_cons, List.map_nil]); first | done | rfl | (simp only [List.length_drop, List.length_take]; rfl)) ?_; (with_reducible refine (spec_ShortestRest.calls kj57 _ _ t870 t871 t876 t877 _ ?side1 ?side2 A100.out).mono ?_); (case side1 => repeat (first | exact (Kd.R_reads' HO873.out).2.2 | (with_reducible refine Kd.C_alloc ?_ _) | (with_reducible refine Kd.C_drewN ?_ _) | (with_reducible refine Kd.C_drew ?_))); (case side2 => exact (Kd.R_reads' HO873.out).2.1); rintro e w107 ⟨rfl, hb⟩; refine ⟨_, rfl, ?_⟩; have n0_ := Aside0.mk (Kd.R_below (by (with_reducible repeat (first | apply Kd.R_alloc | apply Kd.R_drewN | apply Kd.R_drew)); exact HO_16.out) hb); have n1_ := Aside0.mk (Kd.R_below (by (with_reducible repeat (first | apply Kd.R_alloc | apply Kd.R_drewN | apply Kd.R_drew)); exact HO873.out) hb); have n2_ := Aside0.mk (blk_below (g := gb824) (o := .cells #[.int .i64 t821, .int .i64 t822, .int .i64 t823] 44 (0, 0)) BK824.out hb); have n3_ := Aside0.mk (below_step (by repeat (first | (with_reducible first | exact HB.out | apply below_alloc | apply pw_below_drewN | apply below_drew1 | refine below_set ?_ GE824.out) | exact HB.out)) hb); clear HO_16 HO873 BK824 HB; have HO_16 := n0_; have HO873 := n1_; have BK824 := n2_; have HB := n3_; clear n0_ n1_ n2_ n3_; (try clear hb hb2 hk hi)))
            go_ret
            exact ⟨by first | rfl | (simp [*, errW_none, errW_some] <;> rfl), by repeat (first | (with_reducible first | exact HB.out | apply below_alloc | apply pw_below_drewN | apply below_drew1 | refine below_set ?_ GE824.out) | exact HB.out)⟩
           replace c103 := Bool.eq_false_iff.mpr c103
           subst c103
           have H1 : (some true) = some r := by rw [if_neg (show ¬ (false = true) by decide)] at H; exact H
           clear H
           have H := H1
           clear H1
           obtain rfl := Option.some.inj H
           go_wp2_with (first | ((with_reducible refine gate_callee (f := 46) rfl ?_); refine goesL_ (some 193) rfl rfl Try.func46 (by kernel_rfl) rfl #[.slice A0 l0.length c0] rfl (by (try simp only [List.map_toArray, List.map_cons, List.map_nil]); first | done | rfl | (simp only [List.length_drop, List.length_take]; rfl)) ?_; (with_reducible refine (spec_DrawShortestRest.calls kj57 _ _ l0 t870 t871 _ ?side1 ?side2 A98.out).mono ?_); (case side1 => repeat (first | exact (Kd.C_below HR0.out HB.out) | (with_reducible refine Kd.C_alloc ?_ _) | (with_reducible refine Kd.C_drewN ?_ _) | (with_reducible refine Kd.C_drew ?_))); (case side2 => exact HC0.out); rintro e w108 ⟨v872, rfl, ho0, hb⟩; refine ⟨_, rfl, ?_⟩; have n0_ := Aside0.mk (Kd.R_elder' (by (with_reducible repeat (first | apply Kd.R_alloc | apply Kd.R_drewN | apply Kd.R_drew)); exact HO_16.out) (Kd.R_base ho0) hb); have n1_ := Aside0.mk (Kd.R_lower (Kd.R_newB (Kd.R_new' ho0 (Kd.R_lt (by (with_reducible repeat (first | apply Kd.R_alloc | apply Kd.R_drewN | apply Kd.R_drew)); exact HO_16.out))) (g := gb824) (o := .cells #[.int .i64 t821, .int .i64 t822, .int .i64 t823] 44 (0, 0)) BK824.out) (below_size (by repeat (first | (with_reducible first | exact HB.out | apply below_alloc | apply pw_below_drewN | apply below_drew1 | refine below_set ?_ GE824.out) | exact HB.out)))); have n2_ := Aside0.mk (blk_below (g := gb824) (o := .cells #[.int .i64 t821, .int .i64 t822, .int .i64 t823] 44 (0, 0)) BK824.out hb); have n3_ := Aside0.mk (below_step (by repeat (first | (with_reducible first | exact HB.out | apply below_alloc | apply pw_below_drewN | apply below_drew1 | refine below_set ?_ GE824.out) | exact HB.out)) hb); clear HO_16 BK824 HB; have HO_16 := n0_; have HO873 := n1_; have BK824 := n2_; have HB := n3_; clear n0_ n1_ n2_ n3_; (try clear hb hb2 hk hi); (try clear ho0); obtain ⟨Ao109, co109, eo109⟩ := Kd.R_slice HO873.out; subst eo109) | ((with_reducible refine gate_callee (f := 22) rfl ?_); refine goesL_ (some 199) rfl rfl Try.func22 (by kernel_rfl) rfl #[.slice Ao109 t870.length co109, .int .i64 t871] rfl (by (try simp only [List.map_toArray, List.map_cons, List.map_nil]); first | done | rfl | (simp only [List.length_drop, List.length_take]; rfl)) ?_; (with_reducible refine (impl_ShortestRest.calls kj57 _ _ t870 t871 t874 false _ ?side1 ?side2 A99.out).mono ?_); (case side1 => repeat (first | exact (Kd.R_reads' HO873.out).2.2 | (with_reducible refine Kd.C_alloc ?_ _) | (with_reducible refine Kd.C_drewN ?_ _) | (with_reducible refine Kd.C_drew ?_))); (case side2 => exact (Kd.R_reads' HO873.out).2.1); rintro e w110 ⟨rfl, hb⟩; refine ⟨_, rfl, ?_⟩; have n0_ := Aside0.mk (Kd.R_below (by (with_reducible repeat (first | apply Kd.R_alloc | apply Kd.R_drewN | apply Kd.R_drew)); exact HO_16.out) hb); have n1_ := Aside0.mk (Kd.R_below (by (with_reducible repeat (first | apply Kd.R_alloc | apply Kd.R_drewN | apply Kd.R_drew)); exact HO873.out) hb); have n2_ := Aside0.mk (blk_below (g := gb824) (o := .cells #[.int .i64 t821, .int .i64 t822, .int .i64 t823] 44 (0, 0)) BK824.out hb); have n3_ := Aside0.mk (below_step (by repeat (first | (with_reducible first | exact HB.out | apply below_alloc | apply pw_below_drewN | apply below_drew1 | refine below_set ?_ GE824.out) | exact HB.out)) hb); clear HO_16 HO873 BK824 HB; have HO_16 := n0_; have HO873 := n1_; have BK824 := n2_; have HB := n3_; clear n0_ n1_ n2_ n3_; (try clear hb hb2 hk hi)) | ((with_reducible refine gate_callee (f := 21) rfl ?_); refine goesL_ (some 205) rfl rfl Try.func21 (by kernel_rfl) rfl #[.slice Ao109 t870.length co109, .int .i64 t871] rfl (by (try simp only [List.map_toArray, List.map_cons, List.map_nil]); first | done | rfl | (simp only [List.length_drop, List.length_take]; rfl)) ?_; (with_reducible refine (spec_ShortestRest.calls kj57 _ _ t870 t871 t876 t877 _ ?side1 ?side2 A100.out).mono ?_); (case side1 => repeat (first | exact (Kd.R_reads' HO873.out).2.2 | (with_reducible refine Kd.C_alloc ?_ _) | (with_reducible refine Kd.C_drewN ?_ _) | (with_reducible refine Kd.C_drew ?_))); (case side2 => exact (Kd.R_reads' HO873.out).2.1); rintro e w111 ⟨rfl, hb⟩; refine ⟨_, rfl, ?_⟩; have n0_ := Aside0.mk (Kd.R_below (by (with_reducible repeat (first | apply Kd.R_alloc | apply Kd.R_drewN | apply Kd.R_drew)); exact HO_16.out) hb); have n1_ := Aside0.mk (Kd.R_below (by (with_reducible repeat (first | apply Kd.R_alloc | apply Kd.R_drewN | apply Kd.R_drew)); exact HO873.out) hb); have n2_ := Aside0.mk (blk_below (g := gb824) (o := .cells #[.int .i64 t821, .int .i64 t822, .int .i64 t823] 44 (0, 0)) BK824.out hb); have n3_ := Aside0.mk (below_step (by repeat (first | (with_reducible first | exact HB.out | apply below_alloc | apply pw_below_drewN | apply below_drew1 | refine below_set ?_ GE824.out) | exact HB.out)) hb); clear HO_16 HO873 BK824 HB; have HO_16 := n0_; have HO873 := n1_; have BK824 := n2_; have HB := n3_; clear n0_ n1_ n2_ n3_; (try clear hb hb2 hk hi)))
           go_ret
           exact ⟨by first | rfl | (simp [*, errW_none, errW_some] <;> rfl), by repeat (first | (with_reducible first | exact HB.out | apply below_alloc | apply pw_below_drewN | apply below_drew1 | refine below_set ?_ GE824.out) | exact HB.out)⟩
          subst c65
          have H1 : ((impl_AddDuty.f kj57 t844 t845 t850 (wrap64 (t850 + t846))).bind fun bt854 => (if bt854.2 = true then (laws_FnDuties.j5 kj57 l0 t844 t845 t846 t847 t850 (decide (t850 < t847))) else (laws_FnDuties.j5 kj57 l0 t844 t845 t846 t847 t850 true))) = some r := by rw [if_pos rfl] at H; exact H
          clear H
          have H := H1
          clear H1
          replace H := Option.bind_eq_some_iff.mp H
          obtain ⟨⟨t854, t857⟩, A660, H⟩ := H
          replace H : (if t857 = true then (laws_FnDuties.j5 kj57 l0 t844 t845 t846 t847 t850 (decide (t850 < t847))) else (laws_FnDuties.j5 kj57 l0 t844 t845 t846 t847 t850 true)) = some r := H
          have A66 := Aside0.mk A660
          clear A660
          have HC67 := Aside0.mk H
          clear H
          go_upto_region 26 with (first | ((with_reducible refine gate_callee (f := 33) rfl ?_); refine goesL_ (some 162) rfl rfl Try.func33 (by kernel_rfl) rfl #[.slice Ao60 t844.length co60, .agg #[.int .i64 t845, .int .i64 t850, .int .i64 (wrap64 (t850 + t846))]] rfl (by (try simp only [List.map_toArray, List.map_cons, List.map_nil]); first | done | rfl | (simp only [List.length_drop, List.length_take]; rfl)) ?_; (with_reducible refine (impl_AddDuty.calls kj57 _ _ t844 t845 t850 (wrap64 (t850 + t846)) t854 t857 _ ?side1 ?side2 A66.out).mono ?_); (case side1 => repeat (first | exact (Kd.R_reads' HO_16.out).2.2 | (with_reducible refine Kd.C_alloc ?_ _) | (with_reducible refine Kd.C_drewN ?_ _) | (with_reducible refine Kd.C_drew ?_))); (case side2 => exact (Kd.R_reads' HO_16.out).2.1); rintro e w68 ⟨v855, rfl, ho0, hb⟩; refine ⟨_, rfl, ?_⟩; have n0_ := Aside0.mk (Kd.R_elder' (by (with_reducible repeat (first | apply Kd.R_alloc | apply Kd.R_drewN | apply Kd.R_drew)); exact HO_16.out) (Kd.R_base ho0) hb); have n1_ := Aside0.mk (Kd.R_lower (Kd.R_newB (Kd.R_new' ho0 (Kd.R_lt (by (with_reducible repeat (first | apply Kd.R_alloc | apply Kd.R_drewN | apply Kd.R_drew)); exact HO_16.out))) (g := gb824) (o := .cells #[.int .i64 t821, .int .i64 t822, .int .i64 t823] 44 (0, 0)) BK824.out) (below_size (by repeat (first | (with_reducible first | exact HB.out | apply below_alloc | apply pw_below_drewN | apply below_drew1 | refine below_set ?_ GE824.out) | exact HB.out)))); have n2_ := Aside0.mk (blk_below (g := gb824) (o := .cells #[.int .i64 t821, .int .i64 t822, .int .i64 t823] 44 (0, 0)) BK824.out hb); have n3_ := Aside0.mk (below_step (by repeat (first | (with_reducible first | exact HB.out | apply below_alloc | apply pw_below_drewN | apply below_drew1 | refine below_set ?_ GE824.out) | exact HB.out)) hb); clear HO_16 BK824 HB; have HO_16 := n0_; have HO856 := n1_; have BK824 := n2_; have HB := n3_; clear n0_ n1_ n2_ n3_; (try clear hb hb2 hk hi); (try clear ho0)))
          (try simp only [Act.put, List.setIfInBounds_toArray, List.set_cons_zero, List.set_cons_succ])
          go_cut [171] (fun v171 wc => ∃ (kq : Nat) (x171_66 : Bool), v171 = .bool x171_66 ∧ Aside0 (laws_FnDuties.j5 kq l0 t844 t845 t846 t847 t850 x171_66 = some r) ∧ Aside0 (kq ≤ kj57) ∧ Aside0 (Kd.R k44 44 wc w.heap.size (fun k_ => k_ ≠ gb824) (.slice Ao60 t844.length co60) t844) ∧ Aside0 (wc.heap[gb824]? = some (.cells #[.int .i64 t821, .int .i64 t822, .int .i64 t823] 44 (0, 0))) ∧ Aside0 (Below w.heap.size w wc))
          case first =>
           as_aux_lemma =>
            have H := HC67.out
            clear HC67
            by_cases c69 : t857 = true
            ·
             subst c69
             have H1 : (laws_FnDuties.j5 kj57 l0 t844 t845 t846 t847 t850 (decide (t850 < t847))) = some r := by rw [if_pos rfl] at H; exact H
             clear H
             have H := H1
             clear H1
             have H' := Aside0.mk H
             clear H
             go_wp2
             go_meet
             case rel => exact ⟨_, (decide (t850 < t847)), (by first | rfl | (simp; done) | (simp [*]; done)), H', ⟨by have := HJ6.out; have := HJ19.out; have := HJ57.out; first | omega | exact Nat.le_refl _⟩, ⟨by (with_reducible repeat (first | apply Kd.R_alloc | apply Kd.R_drewN | apply Kd.R_drew)); exact Kd.R_mono HO_16.out (fun _ hk => hk.1)⟩, ⟨by (with_reducible repeat (first | refine blk_drewN ?_ _ | refine blk_drew ?_ | refine blk_alloc ?_ _)); exact BK824.out⟩, ⟨by repeat (first | (with_reducible first | exact HB.out | apply below_alloc | apply pw_below_drewN | apply below_drew1 | refine below_set ?_ GE824.out) | exact HB.out)⟩⟩
            replace c69 := Bool.eq_false_iff.mpr c69
            subst c69
            have H1 : (laws_FnDuties.j5 kj57 l0 t844 t845 t846 t847 t850 true) = some r := by rw [if_neg (show ¬ (false = true) by decide)] at H; exact H
            clear H
            have H := H1
            clear H1
            have H' := Aside0.mk H
            clear H
            go_wp2
            go_meet
            case rel => exact ⟨_, (true), (by first | rfl | (simp; done) | (simp [*]; done)), H', ⟨by have := HJ6.out; have := HJ19.out; have := HJ57.out; first | omega | exact Nat.le_refl _⟩, ⟨by (with_reducible repeat (first | apply Kd.R_alloc | apply Kd.R_drewN | apply Kd.R_drew)); exact Kd.R_mono HO_16.out (fun _ hk => hk.1)⟩, ⟨by (with_reducible repeat (first | refine blk_drewN ?_ _ | refine blk_drew ?_ | refine blk_alloc ?_ _)); exact BK824.out⟩, ⟨by repeat (first | (with_reducible first | exact HB.out | apply below_alloc | apply pw_below_drewN | apply below_drew1 | refine below_set ?_ GE824.out) | exact HB.out)⟩⟩
          case rest =>
           as_aux_lemma =>
            clear HC67
            try clear c1
            try clear c2
            try clear p2
            try clear c3
            try clear c4
            try clear c6
            try clear p6
            try clear c12
            try clear c15
            try clear c15b0
            try clear c15b1
            try clear c15b2
            try clear c19
            try clear c20
            try clear c21
            try clear c29
            try clear c30
            try clear c31
            try clear c32
            try clear c32b0
            try clear c32b1
            try clear c33
            try clear c37
            try clear c38
            try clear c39
            try clear c39b0
            try clear c41
            try clear c42
            try clear c43
            try clear c45
            try clear c63
            try clear c63b0
            try clear c63b1
            try clear c64
            try clear p64
            try clear c65
            try clear c69
            try clear hcz10_0
            try clear hcz10_1
            try clear hcz10_2
            try clear hcz13_0
            try clear hcz13_1
            try clear hcz13_2
            try clear hcz25_0
            try clear hcz25_1
            try clear hcz25_2
            try clear hcz27_0
            try clear hcz27_1
            try clear hcz27_2
            try clear hcz34_0
            try clear hcz34_1
            try clear hcz34_2
            try clear hcz36_0
            try clear hcz36_1
            try clear hcz36_2
            try clear hcz38_0
            try clear hcz38_1
            try clear hcz38_2
            try clear hcz44_0
            try clear hcz44_1
            try clear hcz44_2
            try clear hcz46_0
            try clear hcz46_1
            try clear hcz46_2
            try clear hcz48_0
            try clear hcz48_1
            try clear hcz48_2
            try clear hcz50_0
            try clear hcz50_1
            try clear hcz50_2
            try clear hcz52_0
            try clear hcz52_1
            try clear hcz52_2
            try clear hcz54_0
            try clear hcz54_1
            try clear hcz54_2
            try clear hfz10_0
            try clear hfz10_1
            try clear hfz10_2
            try clear hfz13_0
            try clear hfz13_1
            try clear hfz13_2
            try clear hfz25_0
            try clear hfz25_1
            try clear hfz25_2
            try clear hfz27_0
            try clear hfz27_1
            try clear hfz27_2
            try clear hfz34_0
            try clear hfz34_1
            try clear hfz34_2
            try clear hfz36_0
            try clear hfz36_1
            try clear hfz36_2
            try clear hfz38_0
            try clear hfz38_1
            try clear hfz38_2
            try clear hfz44_0
            try clear hfz44_1
            try clear hfz44_2
            try clear hfz46_0
            try clear hfz46_1
            try clear hfz46_2
            try clear hfz48_0
            try clear hfz48_1
            try clear hfz48_2
            try clear hfz50_0
            try clear hfz50_1
            try clear hfz50_2
            try clear hfz52_0
            try clear hfz52_1
            try clear hfz52_2
            try clear hfz54_0
            try clear hfz54_1
            try clear hfz54_2
            try clear p2
            try clear p6
            obtain ⟨kq, x171_66, rfl, HA, HJ66, HO_16, BK824, HB⟩ := hcut
            cases kq with
            | zero => exact absurd HA.out (by simp [laws_FnDuties.j5])
            | succ kj66 =>
             have H := HA.out
             clear HA
             simp only [laws_FnDuties.j5] at H
             by_cases c70 : x171_66 = true
             ·
              subst c70
              have H1 : (some false) = some r := by rw [if_pos rfl] at H; exact H
              exact absurd ((Option.some.inj H1).trans hrt_) (by decide)
             replace c70 := Bool.eq_false_iff.mpr c70
             subst c70
             have H1 : ((impl_AddDuty.f kj66 t844 t845 (wrap64 (t850 - 1)) (wrap64 ((wrap64 (t850 - 1)) + t846))).bind fun bt858 => (if bt858.2 = true then (laws_FnDuties.j6 kj66 l0 (decide (t850 > t847))) else (laws_FnDuties.j6 kj66 l0 false))) = some r := by rw [if_neg (show ¬ (false = true) by decide)] at H; exact H
             clear H
             have H := H1
             clear H1
             replace H := Option.bind_eq_some_iff.mp H
             obtain ⟨⟨t858, t861⟩, A710, H⟩ := H
             replace H : (if t861 = true then (laws_FnDuties.j6 kj66 l0 (decide (t850 > t847))) else (laws_FnDuties.j6 kj66 l0 false)) = some r := H
             have A71 := Aside0.mk A710
             clear A710
             have HC72 := Aside0.mk H
             clear H
             go_upto_region 29 with (first | ((with_reducible refine gate_callee (f := 33) rfl ?_); refine goesL_ (some 182) rfl rfl Try.func33 (by kernel_rfl) rfl #[.slice Ao60 t844.length co60, .agg #[.int .i64 t845, .int .i64 (wrap64 (t850 - 1)), .int .i64 (wrap64 ((wrap64 (t850 - 1)) + t846))]] rfl (by (try simp only [List.map_toArray, List.map_cons, List.map_nil]); first | done | rfl | (simp only [List.length_drop, List.length_take]; rfl)) ?_; (with_reducible refine (impl_AddDuty.calls kj66 _ _ t844 t845 (wrap64 (t850 - 1)) (wrap64 ((wrap64 (t850 - 1)) + t846)) t858 t861 _ ?side1 ?side2 A71.out).mono ?_); (case side1 => repeat (first | exact (Kd.R_reads' HO_16.out).2.2 | (with_reducible refine Kd.C_alloc ?_ _) | (with_reducible refine Kd.C_drewN ?_ _) | (with_reducible refine Kd.C_drew ?_))); (case side2 => exact (Kd.R_reads' HO_16.out).2.1); rintro e w73 ⟨v859, rfl, ho0, hb⟩; refine ⟨_, rfl, ?_⟩; have n0_ := Aside0.mk (Kd.R_elder' (by (with_reducible repeat (first | apply Kd.R_alloc | apply Kd.R_drewN | apply Kd.R_drew)); exact HO_16.out) (Kd.R_base ho0) hb); have n1_ := Aside0.mk (Kd.R_lower (Kd.R_newB (Kd.R_new' ho0 (Kd.R_lt (by (with_reducible repeat (first | apply Kd.R_alloc | apply Kd.R_drewN | apply Kd.R_drew)); exact HO_16.out))) (g := gb824) (o := .cells #[.int .i64 t821, .int .i64 t822, .int .i64 t823] 44 (0, 0)) BK824.out) (below_size (by repeat (first | (with_reducible first | exact HB.out | apply below_alloc | apply pw_below_drewN | apply below_drew1 | refine below_set ?_ GE824.out) | exact HB.out)))); have n2_ := Aside0.mk (blk_below (g := gb824) (o := .cells #[.int .i64 t821, .int .i64 t822, .int .i64 t823] 44 (0, 0)) BK824.out hb); have n3_ := Aside0.mk (below_step (by repeat (first | (with_reducible first | exact HB.out | apply below_alloc | apply pw_below_drewN | apply below_drew1 | refine below_set ?_ GE824.out) | exact HB.out)) hb); clear HO_16 BK824 HB; have HO_16 := n0_; have HO860 := n1_; have BK824 := n2_; have HB := n3_; clear n0_ n1_ n2_ n3_; (try clear hb hb2 hk hi); (try clear ho0)))
             (try simp only [Act.put, List.setIfInBounds_toArray, List.set_cons_zero, List.set_cons_succ])
             go_cut [190] (fun v190 wc => ∃ (kq : Nat) (x190_71 : Bool), v190 = .bool x190_71 ∧ Aside0 (laws_FnDuties.j6 kq l0 x190_71 = some r) ∧ Aside0 (kq ≤ kj66) ∧ Aside0 (wc.heap[gb824]? = some (.cells #[.int .i64 t821, .int .i64 t822, .int .i64 t823] 44 (0, 0))) ∧ Aside0 (Below w.heap.size w wc))
             case first =>
              as_aux_lemma =>
               have H := HC72.out
               clear HC72
               by_cases c74 : t861 = true
               ·
                subst c74
                have H1 : (laws_FnDuties.j6 kj66 l0 (decide (t850 > t847))) = some r := by rw [if_pos rfl] at H; exact H
                clear H
                have H := H1
                clear H1
                have H' := Aside0.mk H
                clear H
                go_wp2
                go_meet
                case rel => exact ⟨_, (decide (t850 > t847)), (by first | rfl | (simp; done) | (simp [*]; done)), H', ⟨by have := HJ6.out; have := HJ19.out; have := HJ57.out; have := HJ66.out; first | omega | exact Nat.le_refl _⟩, ⟨by (with_reducible repeat (first | refine blk_drewN ?_ _ | refine blk_drew ?_ | refine blk_alloc ?_ _)); exact BK824.out⟩, ⟨by repeat (first | (with_reducible first | exact HB.out | apply below_alloc | apply pw_below_drewN | apply below_drew1 | refine below_set ?_ GE824.out) | exact HB.out)⟩⟩
               replace c74 := Bool.eq_false_iff.mpr c74
               subst c74
               have H1 : (laws_FnDuties.j6 kj66 l0 false) = some r := by rw [if_neg (show ¬ (false = true) by decide)] at H; exact H
               clear H
               have H := H1
               clear H1
               have H' := Aside0.mk H
               clear H
               go_wp2
               go_meet
               case rel => exact ⟨_, (false), (by first | rfl | (simp; done) | (simp [*]; done)), H', ⟨by have := HJ6.out; have := HJ19.out; have := HJ57.out; have := HJ66.out; first | omega | exact Nat.le_refl _⟩, ⟨by (with_reducible repeat (first | refine blk_drewN ?_ _ | refine blk_drew ?_ | refine blk_alloc ?_ _)); exact BK824.out⟩, ⟨by repeat (first | (with_reducible first | exact HB.out | apply below_alloc | apply pw_below_drewN | apply below_drew1 | refine below_set ?_ GE824.out) | exact HB.out)⟩⟩
             case rest =>
              as_aux_lemma =>
               clear HC72
               try clear c1
               try clear c2
               try clear p2
               try clear c3
               try clear c4
               try clear c6
               try clear p6
               try clear c7
               try clear c12
               try clear c15
               try clear c15b0
               try clear c15b1
               try clear c15b2
               try clear c19
               try clear c20
               try clear c21
               try clear c29
               try clear c30
               try clear c31
               try clear c32
               try clear c32b0
               try clear c32b1
               try clear c33
               try clear c37
               try clear c38
               try clear c39
               try clear c39b0
               try clear c41
               try clear c42
               try clear c43
               try clear c45
               try clear c63
               try clear c63b0
               try clear c63b1
               try clear c64
               try clear p64
               try clear c65
               try clear c69
               try clear c70
               try clear c74
               try clear hcz10_0
               try clear hcz10_1
               try clear hcz10_2
               try clear hcz13_0
               try clear hcz13_1
               try clear hcz13_2
               try clear hcz25_0
               try clear hcz25_1
               try clear hcz25_2
               try clear hcz27_0
               try clear hcz27_1
               try clear hcz27_2
               try clear hcz34_0
               try clear hcz34_1
               try clear hcz34_2
               try clear hcz36_0
               try clear hcz36_1
               try clear hcz36_2
               try clear hcz38_0
               try clear hcz38_1
               try clear hcz38_2
               try clear hcz44_0
               try clear hcz44_1
               try clear hcz44_2
               try clear hcz46_0
               try clear hcz46_1
               try clear hcz46_2
               try clear hcz48_0
               try clear hcz48_1
               try clear hcz48_2
               try clear hcz50_0
               try clear hcz50_1
               try clear hcz50_2
               try clear hcz52_0
               try clear hcz52_1
               try clear hcz52_2
               try clear hcz54_0
               try clear hcz54_1
               try clear hcz54_2
               try clear hfz10_0
               try clear hfz10_1
               try clear hfz10_2
               try clear hfz13_0
               try clear hfz13_1
               try clear hfz13_2
               try clear hfz25_0
               try clear hfz25_1
               try clear hfz25_2
               try clear hfz27_0
               try clear hfz27_1
               try clear hfz27_2
               try clear hfz34_0
               try clear hfz34_1
               try clear hfz34_2
               try clear hfz36_0
               try clear hfz36_1
               try clear hfz36_2
               try clear hfz38_0
               try clear hfz38_1
               try clear hfz38_2
               try clear hfz44_0
               try clear hfz44_1
               try clear hfz44_2
               try clear hfz46_0
               try clear hfz46_1
               try clear hfz46_2
               try clear hfz48_0
               try clear hfz48_1
               try clear hfz48_2
               try clear hfz50_0
               try clear hfz50_1
               try clear hfz50_2
               try clear hfz52_0
               try clear hfz52_1
               try clear hfz52_2
               try clear hfz54_0
               try clear hfz54_1
               try clear hfz54_2
               try clear p2
               try clear p6
               try clear p64
               obtain ⟨kq, x190_71, rfl, HA, HJ71, BK824, HB⟩ := hcut
               cases kq with
               | zero => exact absurd HA.out (by simp [laws_FnDuties.j6])
               | succ kj71 =>
                have H := HA.out
                clear HA
                simp only [laws_FnDuties.j6] at H
                by_cases c75 : x190_71 = true
                ·
                 subst c75
                 have H1 : (some false) = some r := by rw [if_pos rfl] at H; exact H
                 exact absurd ((Option.some.inj H1).trans hrt_) (by decide)
                replace c75 := Bool.eq_false_iff.mpr c75
                subst c75
                have H1 : ((spec_DrawShortestRest.f kj71 l0).bind fun bt862 => ((impl_ShortestRest.f kj71 bt862.1 bt862.2).bind fun bt866 => ((spec_ShortestRest.f kj71 bt862.1 bt862.2).bind fun bt868 => (if bt866.1 = bt868.1 then (if (bt866.2 == bt868.2) = true then (if bt866.2 = true then (some (decide (bt866.1 ≥ 11))) else (some true)) else (some false)) else (some false))))) = some r := by rw [if_neg (show ¬ (false = true) by decide)] at H; exact H
                clear H
                have H := H1
                clear H1
                replace H := Option.bind_eq_some_iff.mp H
                obtain ⟨⟨t862, t863⟩, A760, H⟩ := H
                replace H : ((impl_ShortestRest.f kj71 t862 t863).bind fun bt866 => ((spec_ShortestRest.f kj71 t862 t863).bind fun bt868 => (if bt866.1 = bt868.1 then (if (bt866.2 == bt868.2) = true then (if bt866.2 = true then (some (decide (bt866.1 ≥ 11))) else (some true)) else (some false)) else (some false)))) = some r := H
                have A76 := Aside0.mk A760
                clear A760
                replace H := Option.bind_eq_some_iff.mp H
                obtain ⟨⟨t866, t867⟩, A770, H⟩ := H
                replace H : ((spec_ShortestRest.f kj71 t862 t863).bind fun bt868 => (if t866 = bt868.1 then (if (t867 == bt868.2) = true then (if t867 = true then (some (decide (t866 ≥ 11))) else (some true)) else (some false)) else (some false))) = some r := H
                have A77 := Aside0.mk A770
                clear A770
                replace H := Option.bind_eq_some_iff.mp H
                obtain ⟨⟨t868, t869⟩, A780, H⟩ := H
                replace H : (if t866 = t868 then (if (t867 == t869) = true then (if t867 = true then (some (decide (t866 ≥ 11))) else (some true)) else (some false)) else (some false)) = some r := H
                have A78 := Aside0.mk A780
                clear A780
                by_cases c79 : t866 = t868
                rotate_left
                ·
                 rw [if_neg c79] at H
                 have c79b0 : (t866 == t868) = false := beq_eq_false_iff_ne.mpr c79
                 have c79b1 : (t866 != t868) = true := bne_iff_ne.mpr c79
                 exact absurd ((Option.some.inj H).trans hrt_) (by decide)
                rw [if_pos c79] at H
                have c79b0 : (t866 == t868) = true := beq_iff_eq.mpr c79
                have c79b1 : (t866 != t868) = false := bne_eq_false_iff_eq.mpr c79
                clear c79
                by_cases c80 : (t867 == t869) = true
                rotate_left
                ·
                 rw [if_neg c80] at H
                 have c80b0 : (t867 == t869) = false := by simpa using c80
                 (try (have c80b1 : decide (t867 = t869) = false := by simpa using c80))
                 (try (have c80b2 : (t867 == t869) = false := by simpa using c80))
                 (try (have c80b3 : ¬ (t867 = t869) := by simpa using c80))
                 clear c80
                 exact absurd ((Option.some.inj H).trans hrt_) (by decide)
                rw [if_pos c80] at H
                have c80b0 : (t867 == t869) = true := c80
                (try (have c80b1 : decide (t867 = t869) = true := by simpa using c80))
                (try (have c80b2 : (t867 == t869) = true := by simpa using c80))
                clear c80
                by_cases c81 : t867 = true
                ·
                 subst c81
                 have H1 : (some (decide (t866 ≥ 11))) = some r := by rw [if_pos rfl] at H; exact H
                 clear H
                 have H := H1
                 clear H1
                 obtain rfl := Option.some.inj H
                 go_wp2_with (first | ((with_reducible refine gate_callee (f := 46) rfl ?_); refine goesL_ (some 193) rfl rfl Try.func46 (by kernel_rfl) rfl #[.slice A0 l0.length c0] rfl (by (try simp only [List.map_toArray, List.map_cons, List.map_nil]); first | done | rfl | (simp only [List.length_drop, List.length_take]; rfl)) ?_; (with_reducible refine (spec_DrawShortestRest.calls kj71 _ _ l0 t862 t863 _ ?side1 ?side2 A76.out).mono ?_); (case side1 => repeat (first | exact (Kd.C_below HR0.out HB.out) | (with_reducible refine Kd.C_alloc ?_ _) | (with_reducible refine Kd.C_drewN ?_ _) | (with_reducible refine Kd.C_drew ?_))); (case side2 => exact HC0.out); rintro e w82 ⟨v864, rfl, ho0, hb⟩; refine ⟨_, rfl, ?_⟩; have n0_ := Aside0.mk (Kd.R_lower (Kd.R_newB ho0 (g := gb824) (o := .cells #[.int .i64 t821, .int .i64 t822, .int .i64 t823] 44 (0, 0)) BK824.out) (below_size (by repeat (first | (with_reducible first | exact HB.out | apply below_alloc | apply pw_below_drewN | apply below_drew1 | refine below_set ?_ GE824.out) | exact HB.out)))); have n1_ := Aside0.mk (blk_below (g := gb824) (o := .cells #[.int .i64 t821, .int .i64 t822, .int .i64 t823] 44 (0, 0)) BK824.out hb); have n2_ := Aside0.mk (below_step (by repeat (first | (with_reducible first | exact HB.out | apply below_alloc | apply pw_below_drewN | apply below_drew1 | refine below_set ?_ GE824.out) | exact HB.out)) hb); clear BK824 HB; have HO865 := n0_; have BK824 := n1_; have HB := n2_; clear n0_ n1_ n2_; (try clear hb hb2 hk hi); (try clear ho0); obtain ⟨Ao83, co83, eo83⟩ := Kd.R_slice HO865.out; subst eo83) | ((with_reducible refine gate_callee (f := 22) rfl ?_); refine goesL_ (some 199) rfl rfl Try.func22 (by kernel_rfl) rfl #[.slice Ao83 t862.length co83, .int .i64 t863] rfl (by (try simp only [List.map_toArray, List.map_cons, List.map_nil]); first | done | rfl | (simp only [List.length_drop, List.length_take]; rfl)) ?_; (with_reducible refine (impl_ShortestRest.calls kj71 _ _ t862 t863 t866 true _ ?side1 ?side2 A77.out).mono ?_); (case side1 => repeat (first | exact (Kd.R_reads' HO865.out).2.2 | (with_reducible refine Kd.C_alloc ?_ _) | (with_reducible refine Kd.C_drewN ?_ _) | (with_reducible refine Kd.C_drew ?_))); (case side2 => exact (Kd.R_reads' HO865.out).2.1); rintro e w84 ⟨rfl, hb⟩; refine ⟨_, rfl, ?_⟩; have n0_ := Aside0.mk (Kd.R_below (by (with_reducible repeat (first | apply Kd.R_alloc | apply Kd.R_drewN | apply Kd.R_drew)); exact HO865.out) hb); have n1_ := Aside0.mk (blk_below (g := gb824) (o := .cells #[.int .i64 t821, .int .i64 t822, .int .i64 t823] 44 (0, 0)) BK824.out hb); have n2_ := Aside0.mk (below_step (by repeat (first | (with_reducible first | exact HB.out | apply below_alloc | apply pw_below_drewN | apply below_drew1 | refine below_set ?_ GE824.out) | exact HB.out)) hb); clear HO865 BK824 HB; have HO865 := n0_; have BK824 := n1_; have HB := n2_; clear n0_ n1_ n2_; (try clear hb hb2 hk hi)) | ((with_reducible refine gate_callee (f := 21) rfl ?_); refine goesL_ (some 205) rfl rfl Try.func21 (by kernel_rfl) rfl #[.slice Ao83 t862.length co83, .int .i64 t863] rfl (by (try simp only [List.map_toArray, List.map_cons, List.map_nil]); first | done | rfl | (simp only [List.length_drop, List.length_take]; rfl)) ?_; (with_reducible refine (spec_ShortestRest.calls kj71 _ _ t862 t863 t868 t869 _ ?side1 ?side2 A78.out).mono ?_); (case side1 => repeat (first | exact (Kd.R_reads' HO865.out).2.2 | (with_reducible refine Kd.C_alloc ?_ _) | (with_reducible refine Kd.C_drewN ?_ _) | (with_reducible refine Kd.C_drew ?_))); (case side2 => exact (Kd.R_reads' HO865.out).2.1); rintro e w85 ⟨rfl, hb⟩; refine ⟨_, rfl, ?_⟩; have n0_ := Aside0.mk (Kd.R_below (by (with_reducible repeat (first | apply Kd.R_alloc | apply Kd.R_drewN | apply Kd.R_drew)); exact HO865.out) hb); have n1_ := Aside0.mk (blk_below (g := gb824) (o := .cells #[.int .i64 t821, .int .i64 t822, .int .i64 t823] 44 (0, 0)) BK824.out hb); have n2_ := Aside0.mk (below_step (by repeat (first | (with_reducible first | exact HB.out | apply below_alloc | apply pw_below_drewN | apply below_drew1 | refine below_set ?_ GE824.out) | exact HB.out)) hb); clear HO865 BK824 HB; have HO865 := n0_; have BK824 := n1_; have HB := n2_; clear n0_ n1_ n2_; (try clear hb hb2 hk hi)))
                 go_ret
                 exact ⟨by first | rfl | (simp [*, errW_none, errW_some] <;> rfl), by repeat (first | (with_reducible first | exact HB.out | apply below_alloc | apply pw_below_drewN | apply below_drew1 | refine below_set ?_ GE824.out) | exact HB.out)⟩
                replace c81 := Bool.eq_false_iff.mpr c81
                subst c81
                have H1 : (some true) = some r := by rw [if_neg (show ¬ (false = true) by decide)] at H; exact H
                clear H
                have H := H1
                clear H1
                obtain rfl := Option.some.inj H
                go_wp2_with (first | ((with_reducible refine gate_callee (f := 46) rfl ?_); refine goesL_ (some 193) rfl rfl Try.func46 (by kernel_rfl) rfl #[.slice A0 l0.length c0] rfl (by (try simp only [List.map_toArray, List.map_cons, List.map_nil]); first | done | rfl | (simp only [List.length_drop, List.length_take]; rfl)) ?_; (with_reducible refine (spec_DrawShortestRest.calls kj71 _ _ l0 t862 t863 _ ?side1 ?side2 A76.out).mono ?_); (case side1 => repeat (first | exact (Kd.C_below HR0.out HB.out) | (with_reducible refine Kd.C_alloc ?_ _) | (with_reducible refine Kd.C_drewN ?_ _) | (with_reducible refine Kd.C_drew ?_))); (case side2 => exact HC0.out); rintro e w86 ⟨v864, rfl, ho0, hb⟩; refine ⟨_, rfl, ?_⟩; have n0_ := Aside0.mk (Kd.R_lower (Kd.R_newB ho0 (g := gb824) (o := .cells #[.int .i64 t821, .int .i64 t822, .int .i64 t823] 44 (0, 0)) BK824.out) (below_size (by repeat (first | (with_reducible first | exact HB.out | apply below_alloc | apply pw_below_drewN | apply below_drew1 | refine below_set ?_ GE824.out) | exact HB.out)))); have n1_ := Aside0.mk (blk_below (g := gb824) (o := .cells #[.int .i64 t821, .int .i64 t822, .int .i64 t823] 44 (0, 0)) BK824.out hb); have n2_ := Aside0.mk (below_step (by repeat (first | (with_reducible first | exact HB.out | apply below_alloc | apply pw_below_drewN | apply below_drew1 | refine below_set ?_ GE824.out) | exact HB.out)) hb); clear BK824 HB; have HO865 := n0_; have BK824 := n1_; have HB := n2_; clear n0_ n1_ n2_; (try clear hb hb2 hk hi); (try clear ho0); obtain ⟨Ao87, co87, eo87⟩ := Kd.R_slice HO865.out; subst eo87) | ((with_reducible refine gate_callee (f := 22) rfl ?_); refine goesL_ (some 199) rfl rfl Try.func22 (by kernel_rfl) rfl #[.slice Ao87 t862.length co87, .int .i64 t863] rfl (by (try simp only [List.map_toArray, List.map_cons, List.map_nil]); first | done | rfl | (simp only [List.length_drop, List.length_take]; rfl)) ?_; (with_reducible refine (impl_ShortestRest.calls kj71 _ _ t862 t863 t866 false _ ?side1 ?side2 A77.out).mono ?_); (case side1 => repeat (first | exact (Kd.R_reads' HO865.out).2.2 | (with_reducible refine Kd.C_alloc ?_ _) | (with_reducible refine Kd.C_drewN ?_ _) | (with_reducible refine Kd.C_drew ?_))); (case side2 => exact (Kd.R_reads' HO865.out).2.1); rintro e w88 ⟨rfl, hb⟩; refine ⟨_, rfl, ?_⟩; have n0_ := Aside0.mk (Kd.R_below (by (with_reducible repeat (first | apply Kd.R_alloc | apply Kd.R_drewN | apply Kd.R_drew)); exact HO865.out) hb); have n1_ := Aside0.mk (blk_below (g := gb824) (o := .cells #[.int .i64 t821, .int .i64 t822, .int .i64 t823] 44 (0, 0)) BK824.out hb); have n2_ := Aside0.mk (below_step (by repeat (first | (with_reducible first | exact HB.out | apply below_alloc | apply pw_below_drewN | apply below_drew1 | refine below_set ?_ GE824.out) | exact HB.out)) hb); clear HO865 BK824 HB; have HO865 := n0_; have BK824 := n1_; have HB := n2_; clear n0_ n1_ n2_; (try clear hb hb2 hk hi)) | ((with_reducible refine gate_callee (f := 21) rfl ?_); refine goesL_ (some 205) rfl rfl Try.func21 (by kernel_rfl) rfl #[.slice Ao87 t862.length co87, .int .i64 t863] rfl (by (try simp only [List.map_toArray, List.map_cons, List.map_nil]); first | done | rfl | (simp only [List.length_drop, List.length_take]; rfl)) ?_; (with_reducible refine (spec_ShortestRest.calls kj71 _ _ t862 t863 t868 t869 _ ?side1 ?side2 A78.out).mono ?_); (case side1 => repeat (first | exact (Kd.R_reads' HO865.out).2.2 | (with_reducible refine Kd.C_alloc ?_ _) | (with_reducible refine Kd.C_drewN ?_ _) | (with_reducible refine Kd.C_drew ?_))); (case side2 => exact (Kd.R_reads' HO865.out).2.1); rintro e w89 ⟨rfl, hb⟩; refine ⟨_, rfl, ?_⟩; have n0_ := Aside0.mk (Kd.R_below (by (with_reducible repeat (first | apply Kd.R_alloc | apply Kd.R_drewN | apply Kd.R_drew)); exact HO865.out) hb); have n1_ := Aside0.mk (blk_below (g := gb824) (o := .cells #[.int .i64 t821, .int .i64 t822, .int .i64 t823] 44 (0, 0)) BK824.out hb); have n2_ := Aside0.mk (below_step (by repeat (first | (with_reducible first | exact HB.out | apply below_alloc | apply pw_below_drewN | apply below_drew1 | refine below_set ?_ GE824.out) | exact HB.out)) hb); clear HO865 BK824 HB; have HO865 := n0_; have BK824 := n1_; have HB := n2_; clear n0_ n1_ n2_; (try clear hb hb2 hk hi)))
                go_ret
                exact ⟨by first | rfl | (simp [*, errW_none, errW_some] <;> rfl), by repeat (first | (with_reducible first | exact HB.out | apply below_alloc | apply pw_below_drewN | apply below_drew1 | refine below_set ?_ GE824.out) | exact HB.out)⟩
/-- THE ONE PURE STATEMENT of laws_FnDuties: yours. -/
def laws_FnDuties.Pure : Prop := ∀ (l0 : List Int), l0.length ≤ maxLen → l0.length * 1 ≤ 140737488351232 → (∀ x ∈ l0, (Lit.int .u8 x).wf = true) → ∃ k, laws_FnDuties.f k l0 = some true
theorem laws_FnDuties.walk (P : laws_FnDuties.Pure) (a0 : Option Addr) (len0 cap0 : Nat) (z0 : List Int) (w : World) (w0 : (a0 = none ∧ len0 = 0 ∧ cap0 = 0 ∧ z0 = []) ∨ ∃ x, a0 = some x ∧ len0 ≤ cap0 ∧ cap0 ≤ maxLen ∧ z0.length = cap0 ∧ (∀ i, i < z0.length → w.cell? (x.add i) = some (.int .u8 (z0.getD i 0))) ∧ ∀ n ∈ z0, (Lit.int .u8 n).wf = true) (y0 : len0 * 1 ≤ 140737488351232) :
  Calls Try.prog 12 #[.slice a0 len0 cap0] w fun e w' => e = .returned (.bool true) ∧ Below w.heap.size w w' := by
 obtain ⟨l0, rfl, hr0, hm0, hw0, hc0⟩ := ReadsInt.ofRowC w0
 obtain ⟨k, h⟩ := P l0 hm0 y0 hw0
 refine (laws_FnDuties.calls k _ _ l0 true w (Kd.C_of_reads (d := (0 : Int)) (h1 := fun _ => rfl) hr0) hc0 h rfl).mono ?_
 rintro e w' ⟨rfl, hd⟩
 exact ⟨rfl, hd⟩

end Go.Proofs.Ythhjhbndnipdgaa.P
