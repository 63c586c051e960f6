-- Made by pp.py of this session out of the kit's print and of contracts proved by hand; Lean checks it.
import Derived.Test.YthhjhbndnipdgaaPx0
import Derived.Test.YthhjhbndnipdgaaPx8
import Derived.Test.YthhjhbndnipdgaaPx17
import Derived.Test.YthhjhbndnipdgaaPx21
import Derived.Test.YthhjhbndnipdgaaPx23
import Derived.Test.YthhjhbndnipdgaaPx27
import Derived.Test.YthhjhbndnipdgaaPx28
import Derived.Test.YthhjhbndnipdgaaPx30
import Derived.Test.YthhjhbndnipdgaaPx31
import Derived.Test.YthhjhbndnipdgaaPx33
import Derived.Test.YthhjhbndnipdgaaPx49
namespace Go.Proofs.Ythhjhbndnipdgaa.P
open Go.RowKit Go.Proofs.YthhjhbndnipdgaaW.PrintWords Go.Proofs.YthhjhbndnipdgaaW.PrintLast Go.Proofs.YthhjhbndnipdgaaW.PrintMore
attribute [local go_sem] max2_int min2_int max_two min_two max_three min_three max_four min_four   -- for this text's walks alone
set_option linter.unusedVariables false
set_option linter.unusedSimpArgs false

/-! ### laws_FnCover: function 13 -/
mutual
def laws_FnCover.j0 : Nat → List Int → List (S44) → Int → Int → Int → List Int → Bool → Bool → Option (Bool)
 | 0, _, _, _, _, _, _, _, _ => none
 | k + 1, x0, x3, x4, x5, x6, x7, x8, x69 => if x69 = true then (some false) else (laws_FnCover.l0 k x0 x3 x5 x6 x7 x8 x4)
def laws_FnCover.l0 : Nat → List Int → List (S44) → Int → Int → List Int → Bool → Int → Option (Bool)
 | 0, _, _, _, _, _, _, _ => none
 | k + 1, x0, x3, x5, x6, x7, x8, x11 => if x8 = true then (laws_FnCover.j2 k x0 x3 x5 x6 x7 x8 x11 (decide (x11 < x5))) else (laws_FnCover.j2 k x0 x3 x5 x6 x7 x8 x11 false)
def laws_FnCover.j2 : Nat → List Int → List (S44) → Int → Int → List Int → Bool → Int → Bool → Option (Bool)
 | 0, _, _, _, _, _, _, _, _ => none
 | k + 1, x0, x3, x5, x6, x7, x8, x11, x76 => if x76 = true then ((impl_OnDuty.f k x3 x11).bind fun bt971 => (if bt971.2 = true then ((laws_rHas.f k x7 x11).bind fun t975 => (if (t975 != (decide ((bt971.1.length : Int) < x6))) = true then (some false) else (laws_FnCover.l0 k x0 x3 x5 x6 x7 x8 (wrap64 (x11 + 1))))) else (some false))) else ((spec_DrawExchangePersons.f k x0).bind fun bt976 => ((impl_ExchangePersons.f k bt976.1 bt976.2.1 bt976.2.2).bind fun bt981 => ((spec_ExchangePersons.f k bt976.1 bt976.2.1 bt976.2.2).bind fun bt985 => (if (bt981.2 != bt985.2) = true then (laws_FnCover.j3 k x0 bt976.1 bt976.2.1 bt976.2.2 bt981.1 bt981.2 true) else ((laws_rPlans.f k bt981.1 bt985.1).bind fun t989 => (laws_FnCover.j3 k x0 bt976.1 bt976.2.1 bt976.2.2 bt981.1 bt981.2 (!t989)))))))
def laws_FnCover.j3 : Nat → List Int → List (S44) → Int → Int → List (S44) → Bool → Bool → Option (Bool)
 | 0, _, _, _, _, _, _, _ => none
 | k + 1, x0, x14, x15, x16, x17, x18, x125 => if x125 = true then (some false) else (if x18 = true then ((impl_DutyHours.f k x14 x15).bind fun bt990 => ((impl_DutyHours.f k x17 x16).bind fun bt992 => ((impl_ExchangePersons.f k x17 x15 x16).bind fun bt994 => ((impl_HandoverHours.f k x14).bind fun bt998 => ((impl_HandoverHours.f k x17).bind fun bt1002 => (if bt990.2 = true then (if bt992.2 = true then (if bt994.2 = true then (if bt998.2 = true then (if bt1002.2 = true then (if bt990.1 = bt992.1 then ((laws_rPlans.f k bt994.1 x14).bind fun t1006 => (if t1006 = true then ((laws_rInts.f k bt998.1 bt1002.1).bind fun t1007 => (if t1007 = true then ((impl_IsValidPlan.f k x17).bind fun t1008 => (if t1008 = true then (laws_FnCover.j4 k x0) else (some false))) else (some false))) else (some false))) else (some false)) else (some false)) else (some false)) else (some false)) else (some false)) else (some false))))))) else (laws_FnCover.j4 k x0))
def laws_FnCover.j4 : Nat → List Int → Option (Bool)
 | 0, _ => none
 | k + 1, x0 => (spec_DrawHandoverHours.f k x0).bind fun t1009 => ((impl_HandoverHours.f k t1009).bind fun bt1012 => ((spec_HandoverHours.f k t1009).bind fun bt1016 => (if (bt1012.2 == bt1016.2) = true then ((laws_rInts.f k bt1012.1 bt1016.1).bind fun t1020 => (some t1020)) else (some false))))
end
def laws_FnCover.f (k : Nat) (l0 : List Int) : Option (Bool) := (laws_rBig.f l0).bind fun t955 => (if t955 = true then (some true) else ((spec_DrawUncoveredHours.f k l0).bind fun bt956 => ((impl_UncoveredHours.f k bt956.1 bt956.2.1 bt956.2.2.1 bt956.2.2.2).bind fun bt962 => ((spec_UncoveredHours.f k bt956.1 bt956.2.1 bt956.2.2.1 bt956.2.2.2).bind fun bt966 => (if (bt962.2 != bt966.2) = true then (laws_FnCover.j0 k l0 bt956.1 bt956.2.1 bt956.2.2.1 bt956.2.2.2 bt962.1 bt962.2 true) else ((laws_rInts.f k bt962.1 bt966.1).bind fun t970 => (laws_FnCover.j0 k l0 bt956.1 bt956.2.1 bt956.2.2.1 bt956.2.2.2 bt962.1 bt962.2 (!t970))))))))
set_option maxHeartbeats 8000000 in
set_option maxRecDepth 100000 in
theorem laws_FnCover.calls (k : Nat) (A0 : Option Addr) (c0 : Nat) (l0 : List Int) (r : Bool) (w : World) (hr0 : Kd.C (Kd.int .u8) w A0 l0.length l0) (hc0 : l0.length ≤ c0) (h : laws_FnCover.f k l0 = some r) (hrt_ : r = true) :
  Calls Try.prog 13 #[.slice A0 l0.length c0] w fun e w' => e = .returned (.bool r) ∧ Below w.heap.size w w' := by
 have HR0 := Aside0.mk hr0
 have HC0 := Aside0.mk hc0
 clear hr0 hc0
 have HB := Aside0.mk (Below.refl w.heap.size w)
 have H : ((laws_rBig.f l0).bind fun t955 => (if t955 = true then (some true) else ((spec_DrawUncoveredHours.f k l0).bind fun bt956 => ((impl_UncoveredHours.f k bt956.1 bt956.2.1 bt956.2.2.1 bt956.2.2.2).bind fun bt962 => ((spec_UncoveredHours.f k bt956.1 bt956.2.1 bt956.2.2.1 bt956.2.2.2).bind fun bt966 => (if (bt962.2 != bt966.2) = true then (laws_FnCover.j0 k l0 bt956.1 bt956.2.1 bt956.2.2.1 bt956.2.2.2 bt962.1 bt962.2 true) else ((laws_rInts.f k bt962.1 bt966.1).bind fun t970 => (laws_FnCover.j0 k l0 bt956.1 bt956.2.1 bt956.2.2.1 bt956.2.2.2 bt962.1 bt962.2 (!t970))))))))) = some r := h
 clear h
 replace H := Option.bind_eq_some_iff.mp H
 obtain ⟨t955, A20, H⟩ := H
 replace H : (if t955 = true then (some true) else ((spec_DrawUncoveredHours.f k l0).bind fun bt956 => ((impl_UncoveredHours.f k bt956.1 bt956.2.1 bt956.2.2.1 bt956.2.2.2).bind fun bt962 => ((spec_UncoveredHours.f k bt956.1 bt956.2.1 bt956.2.2.1 bt956.2.2.2).bind fun bt966 => (if (bt962.2 != bt966.2) = true then (laws_FnCover.j0 k l0 bt956.1 bt956.2.1 bt956.2.2.1 bt956.2.2.2 bt962.1 bt962.2 true) else ((laws_rInts.f k bt962.1 bt966.1).bind fun t970 => (laws_FnCover.j0 k l0 bt956.1 bt956.2.1 bt956.2.2.1 bt956.2.2.2 bt962.1 bt962.2 (!t970)))))))) = some r := H
 have A2 := Aside0.mk A20
 clear A20
 by_cases c3 : t955 = true
 ·
  subst c3
  have H1 : (some true) = some r := by rw [if_pos rfl] at H; exact H
  clear H
  have H := H1
  clear H1
  obtain rfl := Option.some.inj H
  go_enter Try.func13, Try.ntmps13
  go_wp2_with (first | ((with_reducible refine gate_callee (f := 41) rfl ?_); refine goesL_ (some 37) rfl rfl Try.func41 (by kernel_rfl) rfl #[.slice A0 l0.length c0] rfl (by simp only [List.map_toArray, List.map_cons, List.map_nil] <;> rfl) ?_; (with_reducible refine (laws_rBig.calls _ _ l0 true _ ?side1 ?side2 A2.out).mono ?_); (case side1 => repeat (first | exact HR0.out | (with_reducible refine Kd.C_alloc ?_ _) | (with_reducible refine Kd.C_drewN ?_ _) | (with_reducible refine Kd.C_drew ?_))); (case side2 => exact HC0.out); rintro e w' ⟨rfl, ⟨nd, rfl⟩⟩; refine ⟨_, rfl, ?_⟩))
  go_ret
  exact ⟨by first | rfl | (simp [*, errW_none, errW_some] <;> rfl), by repeat (first | (with_reducible first | exact HB.out | apply below_alloc | apply pw_below_drewN | apply below_drew1) | exact HB.out)⟩
 replace c3 := Bool.eq_false_iff.mpr c3
 subst c3
 have H1 : ((spec_DrawUncoveredHours.f k l0).bind fun bt956 => ((impl_UncoveredHours.f k bt956.1 bt956.2.1 bt956.2.2.1 bt956.2.2.2).bind fun bt962 => ((spec_UncoveredHours.f k bt956.1 bt956.2.1 bt956.2.2.1 bt956.2.2.2).bind fun bt966 => (if (bt962.2 != bt966.2) = true then (laws_FnCover.j0 k l0 bt956.1 bt956.2.1 bt956.2.2.1 bt956.2.2.2 bt962.1 bt962.2 true) else ((laws_rInts.f k bt962.1 bt966.1).bind fun t970 => (laws_FnCover.j0 k l0 bt956.1 bt956.2.1 bt956.2.2.1 bt956.2.2.2 bt962.1 bt962.2 (!t970))))))) = some r := by rw [if_neg (show ¬ (false = true) by decide)] at H; exact H
 clear H
 have H := H1
 clear H1
 replace H := Option.bind_eq_some_iff.mp H
 obtain ⟨⟨t956, t957, t958, t959⟩, A40, H⟩ := H
 replace H : ((impl_UncoveredHours.f k t956 t957 t958 t959).bind fun bt962 => ((spec_UncoveredHours.f k t956 t957 t958 t959).bind fun bt966 => (if (bt962.2 != bt966.2) = true then (laws_FnCover.j0 k l0 t956 t957 t958 t959 bt962.1 bt962.2 true) else ((laws_rInts.f k bt962.1 bt966.1).bind fun t970 => (laws_FnCover.j0 k l0 t956 t957 t958 t959 bt962.1 bt962.2 (!t970)))))) = some r := H
 have A4 := Aside0.mk A40
 clear A40
 replace H := Option.bind_eq_some_iff.mp H
 obtain ⟨⟨t962, t963⟩, A50, H⟩ := H
 replace H : ((spec_UncoveredHours.f k t956 t957 t958 t959).bind fun bt966 => (if (t963 != bt966.2) = true then (laws_FnCover.j0 k l0 t956 t957 t958 t959 t962 t963 true) else ((laws_rInts.f k t962 bt966.1).bind fun t970 => (laws_FnCover.j0 k l0 t956 t957 t958 t959 t962 t963 (!t970))))) = some r := H
 have A5 := Aside0.mk A50
 clear A50
 replace H := Option.bind_eq_some_iff.mp H
 obtain ⟨⟨t966, t967⟩, A60, H⟩ := H
 replace H : (if (t963 != t967) = true then (laws_FnCover.j0 k l0 t956 t957 t958 t959 t962 t963 true) else ((laws_rInts.f k t962 t966).bind fun t970 => (laws_FnCover.j0 k l0 t956 t957 t958 t959 t962 t963 (!t970)))) = some r := H
 have A6 := Aside0.mk A60
 clear A60
 have HC7 := Aside0.mk H
 clear H
 go_enter Try.func13, Try.ntmps13
 go_upto_region 6 with (first | ((with_reducible refine gate_callee (f := 41) rfl ?_); refine goesL_ (some 37) rfl rfl Try.func41 (by kernel_rfl) rfl #[.slice A0 l0.length c0] rfl (by simp only [List.map_toArray, List.map_cons, List.map_nil] <;> rfl) ?_; (with_reducible refine (laws_rBig.calls _ _ l0 false _ ?side1 ?side2 A2.out).mono ?_); (case side1 => repeat (first | exact HR0.out | (with_reducible refine Kd.C_alloc ?_ _) | (with_reducible refine Kd.C_drewN ?_ _) | (with_reducible refine Kd.C_drew ?_))); (case side2 => exact HC0.out); rintro e w' ⟨rfl, ⟨nd, rfl⟩⟩; refine ⟨_, rfl, ?_⟩) | ((with_reducible refine gate_callee (f := 47) rfl ?_); refine goesL_ (some 40) rfl rfl Try.func47 (by kernel_rfl) rfl #[.slice A0 l0.length c0] rfl (by simp only [List.map_toArray, List.map_cons, List.map_nil] <;> rfl) ?_; (with_reducible refine (spec_DrawUncoveredHours.calls k _ _ l0 t956 t957 t958 t959 _ ?side1 ?side2 A4.out).mono ?_); (case side1 => repeat (first | exact HR0.out | (with_reducible refine Kd.C_alloc ?_ _) | (with_reducible refine Kd.C_drewN ?_ _) | (with_reducible refine Kd.C_drew ?_))); (case side2 => exact HC0.out); rintro e w8 ⟨v960, rfl, ho0, hb⟩; refine ⟨_, rfl, ?_⟩; have n0_ := Aside0.mk (Kd.R_lower ho0 (below_size (by repeat (first | (with_reducible first | exact HB.out | apply below_alloc | apply pw_below_drewN | apply below_drew1) | exact HB.out)))); have n1_ := Aside0.mk (below_step (by repeat (first | (with_reducible first | exact HB.out | apply below_alloc | apply pw_below_drewN | apply below_drew1) | exact HB.out)) hb); clear HB; have HO961 := n0_; have HB := n1_; clear n0_ n1_; (try clear hb hb2 hk hi); (try clear ho0); obtain ⟨Ao9, co9, eo9⟩ := Kd.R_slice HO961.out; subst eo9) | ((with_reducible refine gate_callee (f := 24) rfl ?_); refine goesL_ (some 50) rfl rfl Try.func24 (by kernel_rfl) rfl #[.slice Ao9 t956.length co9, .int .i64 t957, .int .i64 t958, .int .i64 t959] rfl (by simp only [List.map_toArray, List.map_cons, List.map_nil] <;> rfl) ?_; (with_reducible refine (impl_UncoveredHours.calls k _ _ t956 t957 t958 t959 t962 t963 _ ?side1 ?side2 A5.out).mono ?_); (case side1 => repeat (first | exact (Kd.R_reads' HO961.out).2.2 | (with_reducible refine Kd.C_alloc ?_ _) | (with_reducible refine Kd.C_drewN ?_ _) | (with_reducible refine Kd.C_drew ?_))); (case side2 => exact (Kd.R_reads' HO961.out).2.1); rintro e w10 ⟨v964, rfl, ho0, hb⟩; refine ⟨_, rfl, ?_⟩; have n0_ := Aside0.mk (Kd.R_below (by (with_reducible repeat (first | apply Kd.R_alloc | apply Kd.R_drewN | apply Kd.R_drew)); exact HO961.out) hb); have n1_ := Aside0.mk (Kd.R_lower ho0 (below_size (by repeat (first | (with_reducible first | exact HB.out | apply below_alloc | apply pw_below_drewN | apply below_drew1) | exact HB.out)))); have n2_ := Aside0.mk (below_step (by repeat (first | (with_reducible first | exact HB.out | apply below_alloc | apply pw_below_drewN | apply below_drew1) | exact HB.out)) hb); clear HO961 HB; have HO961 := n0_; have HO965 := n1_; have HB := n2_; clear n0_ n1_ n2_; (try clear hb hb2 hk hi); (try clear ho0)) | ((with_reducible refine gate_callee (f := 23) rfl ?_); refine goesL_ (some 58) rfl rfl Try.func23 (by kernel_rfl) rfl #[.slice Ao9 t956.length co9, .int .i64 t957, .int .i64 t958, .int .i64 t959] rfl (by simp only [List.map_toArray, List.map_cons, List.map_nil] <;> rfl) ?_; (with_reducible refine (spec_UncoveredHours.calls k _ _ t956 t957 t958 t959 t966 t967 _ ?side1 ?side2 A6.out).mono ?_); (case side1 => repeat (first | exact (Kd.R_reads' HO961.out).2.2 | (with_reducible refine Kd.C_alloc ?_ _) | (with_reducible refine Kd.C_drewN ?_ _) | (with_reducible refine Kd.C_drew ?_))); (case side2 => exact (Kd.R_reads' HO961.out).2.1); rintro e w11 ⟨v968, rfl, ho0, hb⟩; refine ⟨_, rfl, ?_⟩; have n0_ := Aside0.mk (Kd.R_below (by (with_reducible repeat (first | apply Kd.R_alloc | apply Kd.R_drewN | apply Kd.R_drew)); exact HO961.out) hb); have n1_ := Aside0.mk (Kd.R_elder' (by (with_reducible repeat (first | apply Kd.R_alloc | apply Kd.R_drewN | apply Kd.R_drew)); exact HO965.out) (Kd.R_base ho0) hb); have n2_ := Aside0.mk (Kd.R_lower (Kd.R_new' ho0 (Kd.R_lt (by (with_reducible repeat (first | apply Kd.R_alloc | apply Kd.R_drewN | apply Kd.R_drew)); exact HO965.out))) (below_size (by repeat (first | (with_reducible first | exact HB.out | apply below_alloc | apply pw_below_drewN | apply below_drew1) | exact HB.out)))); have n3_ := Aside0.mk (below_step (by repeat (first | (with_reducible first | exact HB.out | apply below_alloc | apply pw_below_drewN | apply below_drew1) | exact HB.out)) hb); clear HO961 HO965 HB; have HO961 := n0_; have HO965 := n1_; have HO969 := n2_; have HB := n3_; clear n0_ n1_ n2_ n3_; (try clear hb hb2 hk hi); (try clear ho0)))
 (try simp only [Act.put, List.setIfInBounds_toArray, List.set_cons_zero, List.set_cons_succ])
 go_cut [69] (fun v69 wc => ∃ (kq : Nat) (x69_6 : Bool), v69 = .bool x69_6 ∧ Aside0 (laws_FnCover.j0 kq l0 t956 t957 t958 t959 t962 t963 x69_6 = some r) ∧ Aside0 (kq ≤ k) ∧ Aside0 (Kd.R k44 44 wc w.heap.size (fun _ => True) (.slice Ao9 t956.length co9) t956) ∧ Aside0 (Kd.R (Kd.int .i64) 3 wc w.heap.size (fun _ => True) v964 t962) ∧ Aside0 (Below w.heap.size w wc))
 case first =>
  as_aux_lemma =>
   have H := HC7.out
   clear HC7
   by_cases c12 : (t963 != t967) = true
   ·
    rw [if_pos c12] at H
    have c12b0 : (t963 != t967) = true := c12
    (try (have c12b1 : decide (t963 = t967) = false := by simpa using c12))
    (try (have c12b2 : (t963 == t967) = false := by simpa using c12))
    (try (have c12b3 : ¬ (t963 = t967) := by simpa using c12))
    clear c12
    (first | rw [c12b0] | (simp only [i64_w, i32_w]; rw [c12b0]) | skip)
    have H' := Aside0.mk H
    clear H
    go_wp2
    go_meet
    case rel => exact ⟨_, (true), (by first | rfl | (simp; done) | (simp [*]; done)), H', ⟨by first | omega | exact Nat.le_refl _⟩, ⟨by (with_reducible repeat (first | apply Kd.R_alloc | apply Kd.R_drewN | apply Kd.R_drew)); exact HO961.out⟩, ⟨by (with_reducible repeat (first | apply Kd.R_alloc | apply Kd.R_drewN | apply Kd.R_drew)); exact Kd.R_mono HO965.out (fun _ hk => trivial)⟩, ⟨HB.out⟩⟩
   rw [if_neg c12] at H
   have c12b0 : (t963 != t967) = false := by simpa using c12
   (try (have c12b1 : decide (t963 = t967) = true := by simpa using c12))
   (try (have c12b2 : (t963 == t967) = true := by simpa using c12))
   clear c12
   (first | rw [c12b0] | (simp only [i64_w, i32_w]; rw [c12b0]) | skip)
   replace H := Option.bind_eq_some_iff.mp H
   obtain ⟨t970, A130, H⟩ := H
   replace H : (laws_FnCover.j0 k l0 t956 t957 t958 t959 t962 t963 (!t970)) = some r := H
   have A13 := Aside0.mk A130
   clear A130
   have H' := Aside0.mk H
   clear H
   obtain ⟨Ao14, co14, eo14⟩ := Kd.R_slice HO965.out
   subst eo14
   obtain ⟨Ao15, co15, eo15⟩ := Kd.R_slice HO969.out
   subst eo15
   go_wp2_with (first | (go_at_call 48; (with_reducible refine (laws_rInts.calls k _ _ t962 _ _ t966 t970 _ ?side1 ?side2 ?side3 ?side4 A13.out).mono ?_); (case side1 => repeat (first | exact (Kd.R_reads' HO965.out).2.2 | (with_reducible refine Kd.C_alloc ?_ _) | (with_reducible refine Kd.C_drewN ?_ _) | (with_reducible refine Kd.C_drew ?_))); (case side2 => exact (Kd.R_reads' HO965.out).2.1); (case side3 => repeat (first | exact (Kd.R_reads' HO969.out).2.2 | (with_reducible refine Kd.C_alloc ?_ _) | (with_reducible refine Kd.C_drewN ?_ _) | (with_reducible refine Kd.C_drew ?_))); (case side4 => exact (Kd.R_reads' HO969.out).2.1); rintro e w' ⟨rfl, ⟨nd, rfl⟩⟩))
   go_meet
   case rel => exact ⟨_, (!t970), (by first | rfl | (simp; done) | (simp [*]; done)), H', ⟨by first | omega | exact Nat.le_refl _⟩, ⟨by (with_reducible repeat (first | apply Kd.R_alloc | apply Kd.R_drewN | apply Kd.R_drew)); exact HO961.out⟩, ⟨by (with_reducible repeat (first | apply Kd.R_alloc | apply Kd.R_drewN | apply Kd.R_drew)); exact Kd.R_mono HO965.out (fun _ hk => trivial)⟩, ⟨by repeat (first | (with_reducible first | exact HB.out | apply below_alloc | apply pw_below_drewN | apply below_drew1) | exact HB.out)⟩⟩
 case rest =>
  as_aux_lemma =>
   clear HC7
   try clear c1
   try clear c2
   try clear p2
   try clear c3
   try clear c4
   try clear c12
   try clear c12b0
   try clear c12b1
   try clear c12b2
   try clear c13
   obtain ⟨kq, x69_6, rfl, HA, HJ6, HO_3, HO_7, HB⟩ := hcut
   cases kq with
   | zero => exact absurd HA.out (by simp [laws_FnCover.j0])
   | succ kj6 =>
    have H := HA.out
    clear HA
    simp only [laws_FnCover.j0] at H
    by_cases c16 : x69_6 = true
    ·
     subst c16
     have H1 : (some false) = some r := by rw [if_pos rfl] at H; exact H
     exact absurd ((Option.some.inj H1).trans hrt_) (by decide)
    replace c16 := Bool.eq_false_iff.mpr c16
    subst c16
    have H1 : (laws_FnCover.l0 kj6 l0 t956 t958 t959 t962 t963 t957) = some r := by rw [if_neg (show ¬ (false = true) by decide)] at H; exact H
    clear H
    have H := H1
    clear H1
    have H' := Aside0.mk H
    clear H
    go_wp2
    go_loopg [11] kj6 (fun kq v11 w' => ∃ (x11_2 : Int), v11 = .int .i64 x11_2 ∧ Aside0 (laws_FnCover.l0 kq l0 t956 t958 t959 t962 t963 x11_2 = some r) ∧ Aside0 (kq ≤ kj6) ∧ Aside0 (Kd.R k44 44 w' w.heap.size (fun _ => True) (.slice Ao9 t956.length co9) t956) ∧ Aside0 (Kd.R (Kd.int .i64) 3 w' w.heap.size (fun _ => True) v964 t962) ∧ Aside0 (Below w.heap.size w w'))
    case atStart => exact ⟨(t957), (by first | rfl | (simp; done) | (simp [*]; done)), H', ⟨Nat.le_refl _⟩, ⟨by (with_reducible repeat (first | apply Kd.R_alloc | apply Kd.R_drewN | apply Kd.R_drew)); exact HO_3.out⟩, ⟨by (with_reducible repeat (first | apply Kd.R_alloc | apply Kd.R_drewN | apply Kd.R_drew)); exact HO_7.out⟩, ⟨HB.out⟩⟩
    case round =>
     as_aux_lemma =>
      clear H'
      try clear c1
      try clear c2
      try clear p2
      try clear c3
      try clear c4
      try clear c12
      try clear c12b0
      try clear c12b1
      try clear c12b2
      try clear c13
      try clear c16
      try clear p2
      obtain ⟨x11_2, rfl, HA, HK2, HO_3, HO_7, HB⟩ := hrel
      cases gk with
      | zero => exact absurd HA.out (by simp [laws_FnCover.l0])
      | succ k2 =>
       have H := HA.out
       clear HA
       simp only [laws_FnCover.l0] at H
       have HC17 := Aside0.mk H
       clear H
       go_upto_region 9 with (fail)
       go_cut [76] (fun v76 wc => ∃ (kq : Nat) (x76_16 : Bool), v76 = .bool x76_16 ∧ Aside0 (laws_FnCover.j2 kq l0 t956 t958 t959 t962 t963 x11_2 x76_16 = some r) ∧ Aside0 (kq ≤ k2) ∧ Aside0 (Kd.R k44 44 wc w.heap.size (fun _ => True) (.slice Ao9 t956.length co9) t956) ∧ Aside0 (Kd.R (Kd.int .i64) 3 wc w.heap.size (fun _ => True) v964 t962) ∧ Aside0 (Below w.heap.size w wc))
       case first =>
        as_aux_lemma =>
         have H := HC17.out
         clear HC17
         by_cases c18 : t963 = true
         ·
          subst c18
          have H1 : (laws_FnCover.j2 k2 l0 t956 t958 t959 t962 true x11_2 (decide (x11_2 < t958))) = some r := by rw [if_pos rfl] at H; exact H
          clear H
          have H := H1
          clear H1
          have H' := Aside0.mk H
          clear H
          go_wp2
          go_meet
          case rel => exact ⟨_, (decide (x11_2 < t958)), (by first | rfl | (simp; done) | (simp [*]; done)), H', ⟨by have := HJ6.out; have := HK2.out; first | omega | exact Nat.le_refl _⟩, ⟨by (with_reducible repeat (first | apply Kd.R_alloc | apply Kd.R_drewN | apply Kd.R_drew)); exact HO_3.out⟩, ⟨by (with_reducible repeat (first | apply Kd.R_alloc | apply Kd.R_drewN | apply Kd.R_drew)); exact HO_7.out⟩, ⟨HB.out⟩⟩
         replace c18 := Bool.eq_false_iff.mpr c18
         subst c18
         have H1 : (laws_FnCover.j2 k2 l0 t956 t958 t959 t962 false x11_2 false) = some r := by rw [if_neg (show ¬ (false = true) by decide)] at H; exact H
         clear H
         have H := H1
         clear H1
         have H' := Aside0.mk H
         clear H
         go_wp2
         go_meet
         case rel => exact ⟨_, (false), (by first | rfl | (simp; done) | (simp [*]; done)), H', ⟨by have := HJ6.out; have := HK2.out; first | omega | exact Nat.le_refl _⟩, ⟨by (with_reducible repeat (first | apply Kd.R_alloc | apply Kd.R_drewN | apply Kd.R_drew)); exact HO_3.out⟩, ⟨by (with_reducible repeat (first | apply Kd.R_alloc | apply Kd.R_drewN | apply Kd.R_drew)); exact HO_7.out⟩, ⟨HB.out⟩⟩
       case rest =>
        as_aux_lemma =>
         clear HC17
         try clear c1
         try clear c2
         try clear p2
         try clear c3
         try clear c4
         try clear c12
         try clear c12b0
         try clear c12b1
         try clear c12b2
         try clear c13
         try clear c16
         try clear c18
         try clear p2
         obtain ⟨kq, x76_16, rfl, HA, HJ16, HO_3, HO_7, HB⟩ := hcut
         cases kq with
         | zero => exact absurd HA.out (by simp [laws_FnCover.j2])
         | succ kj16 =>
          have H := HA.out
          clear HA
          simp only [laws_FnCover.j2] at H
          by_cases c19 : x76_16 = true
          ·
           subst c19
           have H1 : ((impl_OnDuty.f kj16 t956 x11_2).bind fun bt971 => (if bt971.2 = true then ((laws_rHas.f kj16 t962 x11_2).bind fun t975 => (if (t975 != (decide ((bt971.1.length : Int) < t959))) = true then (some false) else (laws_FnCover.l0 kj16 l0 t956 t958 t959 t962 t963 (wrap64 (x11_2 + 1))))) else (some false))) = some r := by rw [if_pos rfl] at H; exact H
           clear H
           have H := H1
           clear H1
           replace H := Option.bind_eq_some_iff.mp H
           obtain ⟨⟨t971, t972⟩, A200, H⟩ := H
           replace H : (if t972 = true then ((laws_rHas.f kj16 t962 x11_2).bind fun t975 => (if (t975 != (decide ((t971.length : Int) < t959))) = true then (some false) else (laws_FnCover.l0 kj16 l0 t956 t958 t959 t962 t963 (wrap64 (x11_2 + 1))))) else (some false)) = some r := H
           have A20 := Aside0.mk A200
           clear A200
           by_cases c21 : t972 = true
           rotate_left
           ·
            replace c21 := Bool.eq_false_iff.mpr c21
            subst c21
            have H1 : (some false) = some r := by rw [if_neg (show ¬ (false = true) by decide)] at H; exact H
            exact absurd ((Option.some.inj H1).trans hrt_) (by decide)
           subst c21
           have H1 : ((laws_rHas.f kj16 t962 x11_2).bind fun t975 => (if (t975 != (decide ((t971.length : Int) < t959))) = true then (some false) else (laws_FnCover.l0 kj16 l0 t956 t958 t959 t962 t963 (wrap64 (x11_2 + 1))))) = some r := by rw [if_pos rfl] at H; exact H
           clear H
           have H := H1
           clear H1
           replace H := Option.bind_eq_some_iff.mp H
           obtain ⟨t975, A220, H⟩ := H
           replace H : (if (t975 != (decide ((t971.length : Int) < t959))) = true then (some false) else (laws_FnCover.l0 kj16 l0 t956 t958 t959 t962 t963 (wrap64 (x11_2 + 1)))) = some r := H
           have A22 := Aside0.mk A220
           clear A220
           by_cases c23 : (t975 != (decide ((t971.length : Int) < t959))) = true
           ·
            rw [if_pos c23] at H
            have c23b0 : (t975 != (decide ((t971.length : Int) < t959))) = true := c23
            (try (have c23b1 : decide (t975 = (decide ((t971.length : Int) < t959))) = false := by simpa using c23))
            (try (have c23b2 : (t975 == (decide ((t971.length : Int) < t959))) = false := by simpa using c23))
            (try (have c23b3 : ¬ (t975 = (decide ((t971.length : Int) < t959))) := by simpa using c23))
            clear c23
            exact absurd ((Option.some.inj H).trans hrt_) (by decide)
           rw [if_neg c23] at H
           have c23b0 : (t975 != (decide ((t971.length : Int) < t959))) = false := by simpa using c23
           (try (have c23b1 : decide (t975 = (decide ((t971.length : Int) < t959))) = true := by simpa using c23))
           (try (have c23b2 : (t975 == (decide ((t971.length : Int) < t959))) = true := by simpa using c23))
           clear c23
           have H' := Aside0.mk H
           clear H
           go_wp2_with (first | ((with_reducible refine gate_callee (f := 38) rfl ?_); refine goesL_ (some 82) rfl rfl Try.func38 (by kernel_rfl) rfl #[.slice Ao9 t956.length co9, .int .i64 x11_2] rfl (by simp only [List.map_toArray, List.map_cons, List.map_nil] <;> rfl) ?_; (with_reducible refine (impl_OnDuty.calls kj16 _ _ t956 x11_2 t971 true _ ?side1 ?side2 A20.out).mono ?_); (case side1 => repeat (first | exact (Kd.R_reads' HO_3.out).2.2 | (with_reducible refine Kd.C_alloc ?_ _) | (with_reducible refine Kd.C_drewN ?_ _) | (with_reducible refine Kd.C_drew ?_))); (case side2 => exact (Kd.R_reads' HO_3.out).2.1); rintro e w27 ⟨v973, rfl, ho0, hb⟩; refine ⟨_, rfl, ?_⟩; have n0_ := Aside0.mk (Kd.R_below (by (with_reducible repeat (first | apply Kd.R_alloc | apply Kd.R_drewN | apply Kd.R_drew)); exact HO_3.out) hb); have n1_ := Aside0.mk (Kd.R_elder' (by (with_reducible repeat (first | apply Kd.R_alloc | apply Kd.R_drewN | apply Kd.R_drew)); exact HO_7.out) (Kd.R_base ho0) hb); have n2_ := Aside0.mk (Kd.R_lower (Kd.R_new' ho0 (Kd.R_lt (by (with_reducible repeat (first | apply Kd.R_alloc | apply Kd.R_drewN | apply Kd.R_drew)); exact HO_7.out))) (below_size HB.out)); have n3_ := Aside0.mk (below_step HB.out hb); clear HO_3 HO_7 HB; have HO_3 := n0_; have HO_7 := n1_; have HO974 := n2_; have HB := n3_; clear n0_ n1_ n2_ n3_; (try clear hb hb2 hk hi); (try clear ho0); obtain ⟨Ao28, co28, eo28⟩ := Kd.R_slice HO_7.out; subst eo28) | (go_at_call 44; (with_reducible refine (laws_rHas.calls kj16 _ _ t962 x11_2 t975 _ ?side1 ?side2 A22.out).mono ?_); (case side1 => repeat (first | exact (Kd.R_reads' HO_7.out).2.2 | (with_reducible refine Kd.C_alloc ?_ _) | (with_reducible refine Kd.C_drewN ?_ _) | (with_reducible refine Kd.C_drew ?_))); (case side2 => exact (Kd.R_reads' HO_7.out).2.1); rintro e w' ⟨rfl, ⟨nd, rfl⟩⟩; obtain ⟨Ao29, co29, eo29⟩ := Kd.R_slice HO974.out; subst eo29))
           go_roundg kj16
           case measure => have := HJ6.out; have := HK2.out; have := HJ16.out; omega
           case rel => exact ⟨(wrap64 (x11_2 + 1)), (by first | rfl | (simp; done) | (simp [*]; done)), H', ⟨by have := HJ6.out; have := HK2.out; have := HJ16.out; omega⟩, ⟨by (with_reducible repeat (first | apply Kd.R_alloc | apply Kd.R_drewN | apply Kd.R_drew)); exact HO_3.out⟩, ⟨by (with_reducible repeat (first | apply Kd.R_alloc | apply Kd.R_drewN | apply Kd.R_drew)); exact Kd.R_mono HO_7.out (fun _ hk => trivial)⟩, ⟨by repeat (first | (with_reducible first | exact HB.out | apply below_alloc | apply pw_below_drewN | apply below_drew1) | exact HB.out)⟩⟩
          replace c19 := Bool.eq_false_iff.mpr c19
          subst c19
          have H1 : ((spec_DrawExchangePersons.f kj16 l0).bind fun bt976 => ((impl_ExchangePersons.f kj16 bt976.1 bt976.2.1 bt976.2.2).bind fun bt981 => ((spec_ExchangePersons.f kj16 bt976.1 bt976.2.1 bt976.2.2).bind fun bt985 => (if (bt981.2 != bt985.2) = true then (laws_FnCover.j3 kj16 l0 bt976.1 bt976.2.1 bt976.2.2 bt981.1 bt981.2 true) else ((laws_rPlans.f kj16 bt981.1 bt985.1).bind fun t989 => (laws_FnCover.j3 kj16 l0 bt976.1 bt976.2.1 bt976.2.2 bt981.1 bt981.2 (!t989))))))) = some r := by rw [if_neg (show ¬ (false = true) by decide)] at H; exact H
          clear H
          have H := H1
          clear H1
          replace H := Option.bind_eq_some_iff.mp H
          obtain ⟨⟨t976, t977, t978⟩, A310, H⟩ := H
          replace H : ((impl_ExchangePersons.f kj16 t976 t977 t978).bind fun bt981 => ((spec_ExchangePersons.f kj16 t976 t977 t978).bind fun bt985 => (if (bt981.2 != bt985.2) = true then (laws_FnCover.j3 kj16 l0 t976 t977 t978 bt981.1 bt981.2 true) else ((laws_rPlans.f kj16 bt981.1 bt985.1).bind fun t989 => (laws_FnCover.j3 kj16 l0 t976 t977 t978 bt981.1 bt981.2 (!t989)))))) = some r := H
          have A31 := Aside0.mk A310
          clear A310
          replace H := Option.bind_eq_some_iff.mp H
          obtain ⟨⟨t981, t982⟩, A320, H⟩ := H
          replace H : ((spec_ExchangePersons.f kj16 t976 t977 t978).bind fun bt985 => (if (t982 != bt985.2) = true then (laws_FnCover.j3 kj16 l0 t976 t977 t978 t981 t982 true) else ((laws_rPlans.f kj16 t981 bt985.1).bind fun t989 => (laws_FnCover.j3 kj16 l0 t976 t977 t978 t981 t982 (!t989))))) = some r := H
          have A32 := Aside0.mk A320
          clear A320
          replace H := Option.bind_eq_some_iff.mp H
          obtain ⟨⟨t985, t986⟩, A330, H⟩ := H
          replace H : (if (t982 != t986) = true then (laws_FnCover.j3 kj16 l0 t976 t977 t978 t981 t982 true) else ((laws_rPlans.f kj16 t981 t985).bind fun t989 => (laws_FnCover.j3 kj16 l0 t976 t977 t978 t981 t982 (!t989)))) = some r := H
          have A33 := Aside0.mk A330
          clear A330
          have HC34 := Aside0.mk H
          clear H
          go_upto_region 17 with (first | ((with_reducible refine gate_callee (f := 49) rfl ?_); refine goesL_ (some 99) rfl rfl Try.func49 (by kernel_rfl) rfl #[.slice A0 l0.length c0] rfl (by simp only [List.map_toArray, List.map_cons, List.map_nil] <;> rfl) ?_; (with_reducible refine (spec_DrawExchangePersons.calls kj16 _ _ l0 t976 t977 t978 _ ?side1 ?side2 A31.out).mono ?_); (case side1 => repeat (first | exact (Kd.C_below HR0.out HB.out) | (with_reducible refine Kd.C_alloc ?_ _) | (with_reducible refine Kd.C_drewN ?_ _) | (with_reducible refine Kd.C_drew ?_))); (case side2 => exact HC0.out); rintro e w35 ⟨v979, rfl, ho0, hb⟩; refine ⟨_, rfl, ?_⟩; have n0_ := Aside0.mk (Kd.R_elder' (by (with_reducible repeat (first | apply Kd.R_alloc | apply Kd.R_drewN | apply Kd.R_drew)); exact HO_3.out) (Kd.R_base ho0) hb); have n1_ := Aside0.mk (Kd.R_below (by (with_reducible repeat (first | apply Kd.R_alloc | apply Kd.R_drewN | apply Kd.R_drew)); exact HO_7.out) hb); have n2_ := Aside0.mk (Kd.R_lower (Kd.R_new' ho0 (Kd.R_lt (by (with_reducible repeat (first | apply Kd.R_alloc | apply Kd.R_drewN | apply Kd.R_drew)); exact HO_3.out))) (below_size HB.out)); have n3_ := Aside0.mk (below_step HB.out hb); clear HO_3 HO_7 HB; have HO_3 := n0_; have HO_7 := n1_; have HO980 := n2_; have HB := n3_; clear n0_ n1_ n2_ n3_; (try clear hb hb2 hk hi); (try clear ho0); obtain ⟨Ao36, co36, eo36⟩ := Kd.R_slice HO980.out; subst eo36) | ((with_reducible refine gate_callee (f := 36) rfl ?_); refine goesL_ (some 107) rfl rfl Try.func36 (by kernel_rfl) rfl #[.slice Ao36 t976.length co36, .int .i64 t977, .int .i64 t978] rfl (by simp only [List.map_toArray, List.map_cons, List.map_nil] <;> rfl) ?_; (with_reducible refine (impl_ExchangePersons.calls kj16 _ _ t976 t977 t978 t981 t982 _ ?side1 ?side2 A32.out).mono ?_); (case side1 => repeat (first | exact (Kd.R_reads' HO980.out).2.2 | (with_reducible refine Kd.C_alloc ?_ _) | (with_reducible refine Kd.C_drewN ?_ _) | (with_reducible refine Kd.C_drew ?_))); (case side2 => exact (Kd.R_reads' HO980.out).2.1); rintro e w37 ⟨v983, rfl, ho0, hb⟩; refine ⟨_, rfl, ?_⟩; have n0_ := Aside0.mk (Kd.R_elder' (by (with_reducible repeat (first | apply Kd.R_alloc | apply Kd.R_drewN | apply Kd.R_drew)); exact HO_3.out) (Kd.R_base ho0) hb); have n1_ := Aside0.mk (Kd.R_below (by (with_reducible repeat (first | apply Kd.R_alloc | apply Kd.R_drewN | apply Kd.R_drew)); exact HO_7.out) hb); have n2_ := Aside0.mk (Kd.R_elder' (by (with_reducible repeat (first | apply Kd.R_alloc | apply Kd.R_drewN | apply Kd.R_drew)); exact HO980.out) (Kd.R_base ho0) hb); have n3_ := Aside0.mk (Kd.R_lower (Kd.R_new' (Kd.R_new' ho0 (Kd.R_lt (by (with_reducible repeat (first | apply Kd.R_alloc | apply Kd.R_drewN | apply Kd.R_drew)); exact HO_3.out))) (Kd.R_lt (by (with_reducible repeat (first | apply Kd.R_alloc | apply Kd.R_drewN | apply Kd.R_drew)); exact HO980.out))) (below_size HB.out)); have n4_ := Aside0.mk (below_step HB.out hb); clear HO_3 HO_7 HO980 HB; have HO_3 := n0_; have HO_7 := n1_; have HO980 := n2_; have HO984 := n3_; have HB := n4_; clear n0_ n1_ n2_ n3_ n4_; (try clear hb hb2 hk hi); (try clear ho0)) | ((with_reducible refine gate_callee (f := 35) rfl ?_); refine goesL_ (some 114) rfl rfl Try.func35 (by kernel_rfl) rfl #[.slice Ao36 t976.length co36, .int .i64 t977, .int .i64 t978] rfl (by simp only [List.map_toArray, List.map_cons, List.map_nil] <;> rfl) ?_; (with_reducible refine (spec_ExchangePersons.calls kj16 _ _ t976 t977 t978 t985 t986 _ ?side1 ?side2 A33.out).mono ?_); (case side1 => repeat (first | exact (Kd.R_reads' HO980.out).2.2 | (with_reducible refine Kd.C_alloc ?_ _) | (with_reducible refine Kd.C_drewN ?_ _) | (with_reducible refine Kd.C_drew ?_))); (case side2 => exact (Kd.R_reads' HO980.out).2.1); rintro e w38 ⟨v987, rfl, ho0, hb⟩; refine ⟨_, rfl, ?_⟩; have n0_ := Aside0.mk (Kd.R_elder' (by (with_reducible repeat (first | apply Kd.R_alloc | apply Kd.R_drewN | apply Kd.R_drew)); exact HO_3.out) (Kd.R_base ho0) hb); have n1_ := Aside0.mk (Kd.R_below (by (with_reducible repeat (first | apply Kd.R_alloc | apply Kd.R_drewN | apply Kd.R_drew)); exact HO_7.out) hb); have n2_ := Aside0.mk (Kd.R_elder' (by (with_reducible repeat (first | apply Kd.R_alloc | apply Kd.R_drewN | apply Kd.R_drew)); exact HO980.out) (Kd.R_base ho0) hb); have n3_ := Aside0.mk (Kd.R_elder' (by (with_reducible repeat (first | apply Kd.R_alloc | apply Kd.R_drewN | apply Kd.R_drew)); exact HO984.out) (Kd.R_base ho0) hb); have n4_ := Aside0.mk (Kd.R_lower (Kd.R_new' (Kd.R_new' (Kd.R_new' ho0 (Kd.R_lt (by (with_reducible repeat (first | apply Kd.R_alloc | apply Kd.R_drewN | apply Kd.R_drew)); exact HO_3.out))) (Kd.R_lt (by (with_reducible repeat (first | apply Kd.R_alloc | apply Kd.R_drewN | apply Kd.R_drew)); exact HO980.out))) (Kd.R_lt (by (with_reducible repeat (first | apply Kd.R_alloc | apply Kd.R_drewN | apply Kd.R_drew)); exact HO984.out))) (below_size HB.out)); have n5_ := Aside0.mk (below_step HB.out hb); clear HO_3 HO_7 HO980 HO984 HB; have HO_3 := n0_; have HO_7 := n1_; have HO980 := n2_; have HO984 := n3_; have HO988 := n4_; have HB := n5_; clear n0_ n1_ n2_ n3_ n4_ n5_; (try clear hb hb2 hk hi); (try clear ho0)))
          (try simp only [Act.put, List.setIfInBounds_toArray, List.set_cons_zero, List.set_cons_succ])
          go_cut [125] (fun v125 wc => ∃ (kq : Nat) (x125_33 : Bool), v125 = .bool x125_33 ∧ Aside0 (laws_FnCover.j3 kq l0 t976 t977 t978 t981 t982 x125_33 = some r) ∧ Aside0 (kq ≤ kj16) ∧ Aside0 (Kd.R k44 44 wc w.heap.size (fun k_ => some k_ ≠ (v983 : Value).ownBlock) (.slice Ao36 t976.length co36) t976) ∧ Aside0 (Kd.R k44 44 wc w.heap.size (fun k_ => some k_ ≠ ((.slice Ao36 t976.length co36) : Value).ownBlock) v983 t981) ∧ Aside0 (Below w.heap.size w wc))
          case first =>
           as_aux_lemma =>
            have H := HC34.out
            clear HC34
            by_cases c39 : (t982 != t986) = true
            ·
             rw [if_pos c39] at H
             have c39b0 : (t982 != t986) = true := c39
             (try (have c39b1 : decide (t982 = t986) = false := by simpa using c39))
             (try (have c39b2 : (t982 == t986) = false := by simpa using c39))
             (try (have c39b3 : ¬ (t982 = t986) := by simpa using c39))
             clear c39
             (first | rw [c39b0] | (simp only [i64_w, i32_w]; rw [c39b0]) | skip)
             have H' := Aside0.mk H
             clear H
             go_wp2
             go_meet
             case rel => exact ⟨_, (true), (by first | rfl | (simp; done) | (simp [*]; done)), H', ⟨by have := HJ6.out; have := HK2.out; have := HJ16.out; first | omega | exact Nat.le_refl _⟩, ⟨by (with_reducible repeat (first | apply Kd.R_alloc | apply Kd.R_drewN | apply Kd.R_drew)); exact Kd.R_mono HO980.out (fun _ hk => hk.1.2)⟩, ⟨by (with_reducible repeat (first | apply Kd.R_alloc | apply Kd.R_drewN | apply Kd.R_drew)); exact Kd.R_mono HO984.out (fun _ hk => hk.1.2)⟩, ⟨HB.out⟩⟩
            rw [if_neg c39] at H
            have c39b0 : (t982 != t986) = false := by simpa using c39
            (try (have c39b1 : decide (t982 = t986) = true := by simpa using c39))
            (try (have c39b2 : (t982 == t986) = true := by simpa using c39))
            clear c39
            (first | rw [c39b0] | (simp only [i64_w, i32_w]; rw [c39b0]) | skip)
            replace H := Option.bind_eq_some_iff.mp H
            obtain ⟨t989, A400, H⟩ := H
            replace H : (laws_FnCover.j3 kj16 l0 t976 t977 t978 t981 t982 (!t989)) = some r := H
            have A40 := Aside0.mk A400
            clear A400
            have H' := Aside0.mk H
            clear H
            obtain ⟨Ao41, co41, eo41⟩ := Kd.R_slice HO984.out
            subst eo41
            obtain ⟨Ao42, co42, eo42⟩ := Kd.R_slice HO988.out
            subst eo42
            go_wp2_with (first | (go_at_call 43; (with_reducible refine (laws_rPlans.calls kj16 _ _ t981 _ _ t985 t989 _ ?side1 ?side2 ?side3 ?side4 A40.out).mono ?_); (case side1 => repeat (first | exact (Kd.R_reads' HO984.out).2.2 | (with_reducible refine Kd.C_alloc ?_ _) | (with_reducible refine Kd.C_drewN ?_ _) | (with_reducible refine Kd.C_drew ?_))); (case side2 => exact (Kd.R_reads' HO984.out).2.1); (case side3 => repeat (first | exact (Kd.R_reads' HO988.out).2.2 | (with_reducible refine Kd.C_alloc ?_ _) | (with_reducible refine Kd.C_drewN ?_ _) | (with_reducible refine Kd.C_drew ?_))); (case side4 => exact (Kd.R_reads' HO988.out).2.1); rintro e w' ⟨rfl, ⟨nd, rfl⟩⟩))
            go_meet
            case rel => exact ⟨_, (!t989), (by first | rfl | (simp; done) | (simp [*]; done)), H', ⟨by have := HJ6.out; have := HK2.out; have := HJ16.out; first | omega | exact Nat.le_refl _⟩, ⟨by (with_reducible repeat (first | apply Kd.R_alloc | apply Kd.R_drewN | apply Kd.R_drew)); exact Kd.R_mono HO980.out (fun _ hk => hk.1.2)⟩, ⟨by (with_reducible repeat (first | apply Kd.R_alloc | apply Kd.R_drewN | apply Kd.R_drew)); exact Kd.R_mono HO984.out (fun _ hk => hk.1.2)⟩, ⟨by repeat (first | (with_reducible first | exact HB.out | apply below_alloc | apply pw_below_drewN | apply below_drew1) | exact HB.out)⟩⟩
          case rest =>
           as_aux_lemma =>
            clear HC34
            try clear c1
            try clear c2
            try clear p2
            try clear c3
            try clear c4
            try clear p6
            try clear c12
            try clear c12b0
            try clear c12b1
            try clear c12b2
            try clear c13
            try clear c16
            try clear c18
            try clear c19
            try clear c21
            try clear c23
            try clear c23b0
            try clear c23b1
            try clear c23b2
            try clear c24
            try clear c35
            try clear c36
            try clear c38
            try clear c39
            try clear c39b0
            try clear c39b1
            try clear c39b2
            try clear c41
            try clear p2
            obtain ⟨kq, x125_33, rfl, HA, HJ33, HO_14, HO_17, HB⟩ := hcut
            cases kq with
            | zero => exact absurd HA.out (by simp [laws_FnCover.j3])
            | succ kj33 =>
             have H := HA.out
             clear HA
             simp only [laws_FnCover.j3] at H
             by_cases c43 : x125_33 = true
             ·
              subst c43
              have H1 : (some false) = some r := by rw [if_pos rfl] at H; exact H
              exact absurd ((Option.some.inj H1).trans hrt_) (by decide)
             replace c43 := Bool.eq_false_iff.mpr c43
             subst c43
             have H1 : (if t982 = true then ((impl_DutyHours.f kj33 t976 t977).bind fun bt990 => ((impl_DutyHours.f kj33 t981 t978).bind fun bt992 => ((impl_ExchangePersons.f kj33 t981 t977 t978).bind fun bt994 => ((impl_HandoverHours.f kj33 t976).bind fun bt998 => ((impl_HandoverHours.f kj33 t981).bind fun bt1002 => (if bt990.2 = true then (if bt992.2 = true then (if bt994.2 = true then (if bt998.2 = true then (if bt1002.2 = true then (if bt990.1 = bt992.1 then ((laws_rPlans.f kj33 bt994.1 t976).bind fun t1006 => (if t1006 = true then ((laws_rInts.f kj33 bt998.1 bt1002.1).bind fun t1007 => (if t1007 = true then ((impl_IsValidPlan.f kj33 t981).bind fun t1008 => (if t1008 = true then (laws_FnCover.j4 kj33 l0) else (some false))) else (some false))) else (some false))) else (some false)) else (some false)) else (some false)) else (some false)) else (some false)) else (some false))))))) else (laws_FnCover.j4 kj33 l0)) = some r := by rw [if_neg (show ¬ (false = true) by decide)] at H; exact H
             clear H
             have H := H1
             clear H1
             have HC44 := Aside0.mk H
             clear H
             go_upto_if 126 with (fail)
             go_cut [] (fun wc => ∃ (kq : Nat), Aside0 (laws_FnCover.j4 kq l0 = some r) ∧ Aside0 (kq ≤ kj33) ∧ Aside0 (Below w.heap.size w wc))
             case first =>
              as_aux_lemma =>
               have H := HC44.out
               clear HC44
               by_cases c45 : t982 = true
               rotate_left
               ·
                replace c45 := Bool.eq_false_iff.mpr c45
                subst c45
                have H1 : (laws_FnCover.j4 kj33 l0) = some r := by rw [if_neg (show ¬ (false = true) by decide)] at H; exact H
                clear H
                have H := H1
                clear H1
                have H' := Aside0.mk H
                clear H
                go_wp2
                go_meet
                case rel => exact ⟨_, H', ⟨by have := HJ6.out; have := HK2.out; have := HJ16.out; have := HJ33.out; first | omega | exact Nat.le_refl _⟩, ⟨HB.out⟩⟩
               subst c45
               have H1 : ((impl_DutyHours.f kj33 t976 t977).bind fun bt990 => ((impl_DutyHours.f kj33 t981 t978).bind fun bt992 => ((impl_ExchangePersons.f kj33 t981 t977 t978).bind fun bt994 => ((impl_HandoverHours.f kj33 t976).bind fun bt998 => ((impl_HandoverHours.f kj33 t981).bind fun bt1002 => (if bt990.2 = true then (if bt992.2 = true then (if bt994.2 = true then (if bt998.2 = true then (if bt1002.2 = true then (if bt990.1 = bt992.1 then ((laws_rPlans.f kj33 bt994.1 t976).bind fun t1006 => (if t1006 = true then ((laws_rInts.f kj33 bt998.1 bt1002.1).bind fun t1007 => (if t1007 = true then ((impl_IsValidPlan.f kj33 t981).bind fun t1008 => (if t1008 = true then (laws_FnCover.j4 kj33 l0) else (some false))) else (some false))) else (some false))) else (some false)) else (some false)) else (some false)) else (some false)) else (some false)) else (some false))))))) = some r := by rw [if_pos rfl] at H; exact H
               clear H
               have H := H1
               clear H1
               replace H := Option.bind_eq_some_iff.mp H
               obtain ⟨⟨t990, t991⟩, A460, H⟩ := H
               replace H : ((impl_DutyHours.f kj33 t981 t978).bind fun bt992 => ((impl_ExchangePersons.f kj33 t981 t977 t978).bind fun bt994 => ((impl_HandoverHours.f kj33 t976).bind fun bt998 => ((impl_HandoverHours.f kj33 t981).bind fun bt1002 => (if t991 = true then (if bt992.2 = true then (if bt994.2 = true then (if bt998.2 = true then (if bt1002.2 = true then (if t990 = bt992.1 then ((laws_rPlans.f kj33 bt994.1 t976).bind fun t1006 => (if t1006 = true then ((laws_rInts.f kj33 bt998.1 bt1002.1).bind fun t1007 => (if t1007 = true then ((impl_IsValidPlan.f kj33 t981).bind fun t1008 => (if t1008 = true then (laws_FnCover.j4 kj33 l0) else (some false))) else (some false))) else (some false))) else (some false)) else (some false)) else (some false)) else (some false)) else (some false)) else (some false)))))) = some r := H
               have A46 := Aside0.mk A460
               clear A460
               replace H := Option.bind_eq_some_iff.mp H
               obtain ⟨⟨t992, t993⟩, A470, H⟩ := H
               replace H : ((impl_ExchangePersons.f kj33 t981 t977 t978).bind fun bt994 => ((impl_HandoverHours.f kj33 t976).bind fun bt998 => ((impl_HandoverHours.f kj33 t981).bind fun bt1002 => (if t991 = true then (if t993 = true then (if bt994.2 = true then (if bt998.2 = true then (if bt1002.2 = true then (if t990 = t992 then ((laws_rPlans.f kj33 bt994.1 t976).bind fun t1006 => (if t1006 = true then ((laws_rInts.f kj33 bt998.1 bt1002.1).bind fun t1007 => (if t1007 = true then ((impl_IsValidPlan.f kj33 t981).bind fun t1008 => (if t1008 = true then (laws_FnCover.j4 kj33 l0) else (some false))) else (some false))) else (some false))) else (some false)) else (some false)) else (some false)) else (some false)) else (some false)) else (some false))))) = some r := H
               have A47 := Aside0.mk A470
               clear A470
               replace H := Option.bind_eq_some_iff.mp H
               obtain ⟨⟨t994, t995⟩, A480, H⟩ := H
               replace H : ((impl_HandoverHours.f kj33 t976).bind fun bt998 => ((impl_HandoverHours.f kj33 t981).bind fun bt1002 => (if t991 = true then (if t993 = true then (if t995 = true then (if bt998.2 = true then (if bt1002.2 = true then (if t990 = t992 then ((laws_rPlans.f kj33 t994 t976).bind fun t1006 => (if t1006 = true then ((laws_rInts.f kj33 bt998.1 bt1002.1).bind fun t1007 => (if t1007 = true then ((impl_IsValidPlan.f kj33 t981).bind fun t1008 => (if t1008 = true then (laws_FnCover.j4 kj33 l0) else (some false))) else (some false))) else (some false))) else (some false)) else (some false)) else (some false)) else (some false)) else (some false)) else (some false)))) = some r := H
               have A48 := Aside0.mk A480
               clear A480
               replace H := Option.bind_eq_some_iff.mp H
               obtain ⟨⟨t998, t999⟩, A490, H⟩ := H
               replace H : ((impl_HandoverHours.f kj33 t981).bind fun bt1002 => (if t991 = true then (if t993 = true then (if t995 = true then (if t999 = true then (if bt1002.2 = true then (if t990 = t992 then ((laws_rPlans.f kj33 t994 t976).bind fun t1006 => (if t1006 = true then ((laws_rInts.f kj33 t998 bt1002.1).bind fun t1007 => (if t1007 = true then ((impl_IsValidPlan.f kj33 t981).bind fun t1008 => (if t1008 = true then (laws_FnCover.j4 kj33 l0) else (some false))) else (some false))) else (some false))) else (some false)) else (some false)) else (some false)) else (some false)) else (some false)) else (some false))) = some r := H
               have A49 := Aside0.mk A490
               clear A490
               replace H := Option.bind_eq_some_iff.mp H
               obtain ⟨⟨t1002, t1003⟩, A500, H⟩ := H
               replace H : (if t991 = true then (if t993 = true then (if t995 = true then (if t999 = true then (if t1003 = true then (if t990 = t992 then ((laws_rPlans.f kj33 t994 t976).bind fun t1006 => (if t1006 = true then ((laws_rInts.f kj33 t998 t1002).bind fun t1007 => (if t1007 = true then ((impl_IsValidPlan.f kj33 t981).bind fun t1008 => (if t1008 = true then (laws_FnCover.j4 kj33 l0) else (some false))) else (some false))) else (some false))) else (some false)) else (some false)) else (some false)) else (some false)) else (some false)) else (some false)) = some r := H
               have A50 := Aside0.mk A500
               clear A500
               by_cases c51 : t991 = true
               rotate_left
               ·
                replace c51 := Bool.eq_false_iff.mpr c51
                subst c51
                have H1 : (some false) = some r := by rw [if_neg (show ¬ (false = true) by decide)] at H; exact H
                exact absurd ((Option.some.inj H1).trans hrt_) (by decide)
               subst c51
               have H1 : (if t993 = true then (if t995 = true then (if t999 = true then (if t1003 = true then (if t990 = t992 then ((laws_rPlans.f kj33 t994 t976).bind fun t1006 => (if t1006 = true then ((laws_rInts.f kj33 t998 t1002).bind fun t1007 => (if t1007 = true then ((impl_IsValidPlan.f kj33 t981).bind fun t1008 => (if t1008 = true then (laws_FnCover.j4 kj33 l0) else (some false))) else (some false))) else (some false))) else (some false)) else (some false)) else (some false)) else (some false)) else (some false)) = some r := by rw [if_pos rfl] at H; exact H
               clear H
               have H := H1
               clear H1
               by_cases c52 : t993 = true
               rotate_left
               ·
                replace c52 := Bool.eq_false_iff.mpr c52
                subst c52
                have H1 : (some false) = some r := by rw [if_neg (show ¬ (false = true) by decide)] at H; exact H
                exact absurd ((Option.some.inj H1).trans hrt_) (by decide)
               subst c52
               have H1 : (if t995 = true then (if t999 = true then (if t1003 = true then (if t990 = t992 then ((laws_rPlans.f kj33 t994 t976).bind fun t1006 => (if t1006 = true then ((laws_rInts.f kj33 t998 t1002).bind fun t1007 => (if t1007 = true then ((impl_IsValidPlan.f kj33 t981).bind fun t1008 => (if t1008 = true then (laws_FnCover.j4 kj33 l0) else (some false))) else (some false))) else (some false))) else (some false)) else (some false)) else (some false)) else (some false)) = some r := by rw [if_pos rfl] at H; exact H
               clear H
               have H := H1
               clear H1
               by_cases c53 : t995 = true
               rotate_left
               ·
                replace c53 := Bool.eq_false_iff.mpr c53
                subst c53
                have H1 : (some false) = some r := by rw [if_neg (show ¬ (false = true) by decide)] at H; exact H
                exact absurd ((Option.some.inj H1).trans hrt_) (by decide)
               subst c53
               have H1 : (if t999 = true then (if t1003 = true then (if t990 = t992 then ((laws_rPlans.f kj33 t994 t976).bind fun t1006 => (if t1006 = true then ((laws_rInts.f kj33 t998 t1002).bind fun t1007 => (if t1007 = true then ((impl_IsValidPlan.f kj33 t981).bind fun t1008 => (if t1008 = true then (laws_FnCover.j4 kj33 l0) else (some false))) else (some false))) else (some false))) else (some false)) else (some false)) else (some false)) = some r := by rw [if_pos rfl] at H; exact H
               clear H
               have H := H1
               clear H1
               by_cases c54 : t999 = true
               rotate_left
               ·
                replace c54 := Bool.eq_false_iff.mpr c54
                subst c54
                have H1 : (some false) = some r := by rw [if_neg (show ¬ (false = true) by decide)] at H; exact H
                exact absurd ((Option.some.inj H1).trans hrt_) (by decide)
               subst c54
               have H1 : (if t1003 = true then (if t990 = t992 then ((laws_rPlans.f kj33 t994 t976).bind fun t1006 => (if t1006 = true then ((laws_rInts.f kj33 t998 t1002).bind fun t1007 => (if t1007 = true then ((impl_IsValidPlan.f kj33 t981).bind fun t1008 => (if t1008 = true then (laws_FnCover.j4 kj33 l0) else (some false))) else (some false))) else (some false))) else (some false)) else (some false)) = some r := by rw [if_pos rfl] at H; exact H
               clear H
               have H := H1
               clear H1
               by_cases c55 : t1003 = true
               rotate_left
               ·
                replace c55 := Bool.eq_false_iff.mpr c55
                subst c55
                have H1 : (some false) = some r := by rw [if_neg (show ¬ (false = true) by decide)] at H; exact H
                exact absurd ((Option.some.inj H1).trans hrt_) (by decide)
               subst c55
               have H1 : (if t990 = t992 then ((laws_rPlans.f kj33 t994 t976).bind fun t1006 => (if t1006 = true then ((laws_rInts.f kj33 t998 t1002).bind fun t1007 => (if t1007 = true then ((impl_IsValidPlan.f kj33 t981).bind fun t1008 => (if t1008 = true then (laws_FnCover.j4 kj33 l0) else (some false))) else (some false))) else (some false))) else (some false)) = some r := by rw [if_pos rfl] at H; exact H
               clear H
               have H := H1
               clear H1
               by_cases c56 : t990 = t992
               rotate_left
               ·
                rw [if_neg c56] at H
                have c56b0 : (t990 == t992) = false := beq_eq_false_iff_ne.mpr c56
                have c56b1 : (t990 != t992) = true := bne_iff_ne.mpr c56
                (first | rw [c56b0] | (simp only [i64_w, i32_w]; rw [c56b0]) | skip)
                exact absurd ((Option.some.inj H).trans hrt_) (by decide)
               rw [if_pos c56] at H
               have c56b0 : (t990 == t992) = true := beq_iff_eq.mpr c56
               have c56b1 : (t990 != t992) = false := bne_eq_false_iff_eq.mpr c56
               clear c56
               (first | rw [c56b0] | (simp only [i64_w, i32_w]; rw [c56b0]) | skip)
               replace H := Option.bind_eq_some_iff.mp H
               obtain ⟨t1006, A570, H⟩ := H
               replace H : (if t1006 = true then ((laws_rInts.f kj33 t998 t1002).bind fun t1007 => (if t1007 = true then ((impl_IsValidPlan.f kj33 t981).bind fun t1008 => (if t1008 = true then (laws_FnCover.j4 kj33 l0) else (some false))) else (some false))) else (some false)) = some r := H
               have A57 := Aside0.mk A570
               clear A570
               by_cases c58 : t1006 = true
               rotate_left
               ·
                replace c58 := Bool.eq_false_iff.mpr c58
                subst c58
                have H1 : (some false) = some r := by rw [if_neg (show ¬ (false = true) by decide)] at H; exact H
                exact absurd ((Option.some.inj H1).trans hrt_) (by decide)
               subst c58
               have H1 : ((laws_rInts.f kj33 t998 t1002).bind fun t1007 => (if t1007 = true then ((impl_IsValidPlan.f kj33 t981).bind fun t1008 => (if t1008 = true then (laws_FnCover.j4 kj33 l0) else (some false))) else (some false))) = some r := by rw [if_pos rfl] at H; exact H
               clear H
               have H := H1
               clear H1
               replace H := Option.bind_eq_some_iff.mp H
               obtain ⟨t1007, A590, H⟩ := H
               replace H : (if t1007 = true then ((impl_IsValidPlan.f kj33 t981).bind fun t1008 => (if t1008 = true then (laws_FnCover.j4 kj33 l0) else (some false))) else (some false)) = some r := H
               have A59 := Aside0.mk A590
               clear A590
               by_cases c60 : t1007 = true
               rotate_left
               ·
                replace c60 := Bool.eq_false_iff.mpr c60
                subst c60
                have H1 : (some false) = some r := by rw [if_neg (show ¬ (false = true) by decide)] at H; exact H
                exact absurd ((Option.some.inj H1).trans hrt_) (by decide)
               subst c60
               have H1 : ((impl_IsValidPlan.f kj33 t981).bind fun t1008 => (if t1008 = true then (laws_FnCover.j4 kj33 l0) else (some false))) = some r := by rw [if_pos rfl] at H; exact H
               clear H
               have H := H1
               clear H1
               replace H := Option.bind_eq_some_iff.mp H
               obtain ⟨t1008, A610, H⟩ := H
               replace H : (if t1008 = true then (laws_FnCover.j4 kj33 l0) else (some false)) = some r := H
               have A61 := Aside0.mk A610
               clear A610
               by_cases c62 : t1008 = true
               rotate_left
               ·
                replace c62 := Bool.eq_false_iff.mpr c62
                subst c62
                have H1 : (some false) = some r := by rw [if_neg (show ¬ (false = true) by decide)] at H; exact H
                exact absurd ((Option.some.inj H1).trans hrt_) (by decide)
               subst c62
               have H1 : (laws_FnCover.j4 kj33 l0) = some r := by rw [if_pos rfl] at H; exact H
               clear H
               have H := H1
               clear H1
               have H' := Aside0.mk H
               clear H
               go_wp2_with (first | ((with_reducible refine gate_callee (f := 20) rfl ?_); refine goesL_ (some 130) rfl rfl Try.func20 (by kernel_rfl) rfl #[.slice Ao36 t976.length co36, .int .i64 t977] rfl (by simp only [List.map_toArray, List.map_cons, List.map_nil] <;> rfl) ?_; (with_reducible refine (impl_DutyHours.calls kj33 _ _ t976 t977 t990 true _ ?side1 ?side2 A46.out).mono ?_); (case side1 => repeat (first | exact (Kd.R_reads' HO_14.out).2.2 | (with_reducible refine Kd.C_alloc ?_ _) | (with_reducible refine Kd.C_drewN ?_ _) | (with_reducible refine Kd.C_drew ?_))); (case side2 => exact (Kd.R_reads' HO_14.out).2.1); rintro e w63 ⟨rfl, hb⟩; refine ⟨_, rfl, ?_⟩; have n0_ := Aside0.mk (Kd.R_below (by (with_reducible repeat (first | apply Kd.R_alloc | apply Kd.R_drewN | apply Kd.R_drew)); exact HO_14.out) hb); have n1_ := Aside0.mk (Kd.R_below (by (with_reducible repeat (first | apply Kd.R_alloc | apply Kd.R_drewN | apply Kd.R_drew)); exact HO_17.out) hb); have n2_ := Aside0.mk (below_step (by repeat (first | (with_reducible first | exact HB.out | apply below_alloc | apply pw_below_drewN | apply below_drew1) | exact HB.out)) hb); clear HO_14 HO_17 HB; have HO_14 := n0_; have HO_17 := n1_; have HB := n2_; clear n0_ n1_ n2_; (try clear hb hb2 hk hi); obtain ⟨Ao64, co64, eo64⟩ := Kd.R_slice HO_17.out; subst eo64) | ((with_reducible refine gate_callee (f := 20) rfl ?_); refine goesL_ (some 136) rfl rfl Try.func20 (by kernel_rfl) rfl #[.slice Ao64 t981.length co64, .int .i64 t978] rfl (by simp only [List.map_toArray, List.map_cons, List.map_nil] <;> rfl) ?_; (with_reducible refine (impl_DutyHours.calls kj33 _ _ t981 t978 t992 true _ ?side1 ?side2 A47.out).mono ?_); (case side1 => repeat (first | exact (Kd.R_reads' HO_17.out).2.2 | (with_reducible refine Kd.C_alloc ?_ _) | (with_reducible refine Kd.C_drewN ?_ _) | (with_reducible refine Kd.C_drew ?_))); (case side2 => exact (Kd.R_reads' HO_17.out).2.1); rintro e w65 ⟨rfl, hb⟩; refine ⟨_, rfl, ?_⟩; have n0_ := Aside0.mk (Kd.R_below (by (with_reducible repeat (first | apply Kd.R_alloc | apply Kd.R_drewN | apply Kd.R_drew)); exact HO_14.out) hb); have n1_ := Aside0.mk (Kd.R_below (by (with_reducible repeat (first | apply Kd.R_alloc | apply Kd.R_drewN | apply Kd.R_drew)); exact HO_17.out) hb); have n2_ := Aside0.mk (below_step (by repeat (first | (with_reducible first | exact HB.out | apply below_alloc | apply pw_below_drewN | apply below_drew1) | exact HB.out)) hb); clear HO_14 HO_17 HB; have HO_14 := n0_; have HO_17 := n1_; have HB := n2_; clear n0_ n1_ n2_; (try clear hb hb2 hk hi)) | ((with_reducible refine gate_callee (f := 36) rfl ?_); refine goesL_ (some 143) rfl rfl Try.func36 (by kernel_rfl) rfl #[.slice Ao64 t981.length co64, .int .i64 t977, .int .i64 t978] rfl (by simp only [List.map_toArray, List.map_cons, List.map_nil] <;> rfl) ?_; (with_reducible refine (impl_ExchangePersons.calls kj33 _ _ t981 t977 t978 t994 true _ ?side1 ?side2 A48.out).mono ?_); (case side1 => repeat (first | exact (Kd.R_reads' HO_17.out).2.2 | (with_reducible refine Kd.C_alloc ?_ _) | (with_reducible refine Kd.C_drewN ?_ _) | (with_reducible refine Kd.C_drew ?_))); (case side2 => exact (Kd.R_reads' HO_17.out).2.1); rintro e w66 ⟨v996, rfl, ho0, hb⟩; refine ⟨_, rfl, ?_⟩; have n0_ := Aside0.mk (Kd.R_elder' (by (with_reducible repeat (first | apply Kd.R_alloc | apply Kd.R_drewN | apply Kd.R_drew)); exact HO_14.out) (Kd.R_base ho0) hb); have n1_ := Aside0.mk (Kd.R_elder' (by (with_reducible repeat (first | apply Kd.R_alloc | apply Kd.R_drewN | apply Kd.R_drew)); exact HO_17.out) (Kd.R_base ho0) hb); have n2_ := Aside0.mk (Kd.R_lower (Kd.R_new' (Kd.R_new' ho0 (Kd.R_lt (by (with_reducible repeat (first | apply Kd.R_alloc | apply Kd.R_drewN | apply Kd.R_drew)); exact HO_14.out))) (Kd.R_lt (by (with_reducible repeat (first | apply Kd.R_alloc | apply Kd.R_drewN | apply Kd.R_drew)); exact HO_17.out))) (below_size (by repeat (first | (with_reducible first | exact HB.out | apply below_alloc | apply pw_below_drewN | apply below_drew1) | exact HB.out)))); have n3_ := Aside0.mk (below_step (by repeat (first | (with_reducible first | exact HB.out | apply below_alloc | apply pw_below_drewN | apply below_drew1) | exact HB.out)) hb); clear HO_14 HO_17 HB; have HO_14 := n0_; have HO_17 := n1_; have HO997 := n2_; have HB := n3_; clear n0_ n1_ n2_ n3_; (try clear hb hb2 hk hi); (try clear ho0)) | ((with_reducible refine gate_callee (f := 40) rfl ?_); refine goesL_ (some 148) rfl rfl Try.func40 (by kernel_rfl) rfl #[.slice Ao36 t976.length co36] rfl (by simp only [List.map_toArray, List.map_cons, List.map_nil] <;> rfl) ?_; (with_reducible refine (impl_HandoverHours.calls kj33 _ _ t976 t998 true _ ?side1 ?side2 A49.out).mono ?_); (case side1 => repeat (first | exact (Kd.R_reads' HO_14.out).2.2 | (with_reducible refine Kd.C_alloc ?_ _) | (with_reducible refine Kd.C_drewN ?_ _) | (with_reducible refine Kd.C_drew ?_))); (case side2 => exact (Kd.R_reads' HO_14.out).2.1); rintro e w67 ⟨v1000, rfl, ho0, hb⟩; refine ⟨_, rfl, ?_⟩; have n0_ := Aside0.mk (Kd.R_below (by (with_reducible repeat (first | apply Kd.R_alloc | apply Kd.R_drewN | apply Kd.R_drew)); exact HO_14.out) hb); have n1_ := Aside0.mk (Kd.R_below (by (with_reducible repeat (first | apply Kd.R_alloc | apply Kd.R_drewN | apply Kd.R_drew)); exact HO_17.out) hb); have n2_ := Aside0.mk (Kd.R_below (by (with_reducible repeat (first | apply Kd.R_alloc | apply Kd.R_drewN | apply Kd.R_drew)); exact HO997.out) hb); have n3_ := Aside0.mk (Kd.R_lower ho0 (below_size (by repeat (first | (with_reducible first | exact HB.out | apply below_alloc | apply pw_below_drewN | apply below_drew1) | exact HB.out)))); have n4_ := Aside0.mk (below_step (by repeat (first | (with_reducible first | exact HB.out | apply below_alloc | apply pw_below_drewN | apply below_drew1) | exact HB.out)) hb); clear HO_14 HO_17 HO997 HB; have HO_14 := n0_; have HO_17 := n1_; have HO997 := n2_; have HO1001 := n3_; have HB := n4_; clear n0_ n1_ n2_ n3_ n4_; (try clear hb hb2 hk hi); (try clear ho0)) | ((with_reducible refine gate_callee (f := 40) rfl ?_); refine goesL_ (some 153) rfl rfl Try.func40 (by kernel_rfl) rfl #[.slice Ao64 t981.length co64] rfl (by simp only [List.map_toArray, List.map_cons, List.map_nil] <;> rfl) ?_; (with_reducible refine (impl_HandoverHours.calls kj33 _ _ t981 t1002 true _ ?side1 ?side2 A50.out).mono ?_); (case side1 => repeat (first | exact (Kd.R_reads' HO_17.out).2.2 | (with_reducible refine Kd.C_alloc ?_ _) | (with_reducible refine Kd.C_drewN ?_ _) | (with_reducible refine Kd.C_drew ?_))); (case side2 => exact (Kd.R_reads' HO_17.out).2.1); rintro e w68 ⟨v1004, rfl, ho0, hb⟩; refine ⟨_, rfl, ?_⟩; have n0_ := Aside0.mk (Kd.R_below (by (with_reducible repeat (first | apply Kd.R_alloc | apply Kd.R_drewN | apply Kd.R_drew)); exact HO_14.out) hb); have n1_ := Aside0.mk (Kd.R_below (by (with_reducible repeat (first | apply Kd.R_alloc | apply Kd.R_drewN | apply Kd.R_drew)); exact HO_17.out) hb); have n2_ := Aside0.mk (Kd.R_below (by (with_reducible repeat (first | apply Kd.R_alloc | apply Kd.R_drewN | apply Kd.R_drew)); exact HO997.out) hb); have n3_ := Aside0.mk (Kd.R_elder' (by (with_reducible repeat (first | apply Kd.R_alloc | apply Kd.R_drewN | apply Kd.R_drew)); exact HO1001.out) (Kd.R_base ho0) hb); have n4_ := Aside0.mk (Kd.R_lower (Kd.R_new' ho0 (Kd.R_lt (by (with_reducible repeat (first | apply Kd.R_alloc | apply Kd.R_drewN | apply Kd.R_drew)); exact HO1001.out))) (below_size (by repeat (first | (with_reducible first | exact HB.out | apply below_alloc | apply pw_below_drewN | apply below_drew1) | exact HB.out)))); have n5_ := Aside0.mk (below_step (by repeat (first | (with_reducible first | exact HB.out | apply below_alloc | apply pw_below_drewN | apply below_drew1) | exact HB.out)) hb); clear HO_14 HO_17 HO997 HO1001 HB; have HO_14 := n0_; have HO_17 := n1_; have HO997 := n2_; have HO1001 := n3_; have HO1005 := n4_; have HB := n5_; clear n0_ n1_ n2_ n3_ n4_ n5_; (try clear hb hb2 hk hi); (try clear ho0); obtain ⟨Ao69, co69, eo69⟩ := Kd.R_slice HO997.out; subst eo69) | (go_at_call 43; (with_reducible refine (laws_rPlans.calls kj33 _ _ t994 _ _ t976 true _ ?side1 ?side2 ?side3 ?side4 A57.out).mono ?_); (case side1 => repeat (first | exact (Kd.R_reads' HO997.out).2.2 | (with_reducible refine Kd.C_alloc ?_ _) | (with_reducible refine Kd.C_drewN ?_ _) | (with_reducible refine Kd.C_drew ?_))); (case side2 => exact (Kd.R_reads' HO997.out).2.1); (case side3 => repeat (first | exact (Kd.R_reads' HO_14.out).2.2 | (with_reducible refine Kd.C_alloc ?_ _) | (with_reducible refine Kd.C_drewN ?_ _) | (with_reducible refine Kd.C_drew ?_))); (case side4 => exact (Kd.R_reads' HO_14.out).2.1); rintro e w' ⟨rfl, ⟨nd, rfl⟩⟩; obtain ⟨Ao70, co70, eo70⟩ := Kd.R_slice HO1001.out; subst eo70; obtain ⟨Ao71, co71, eo71⟩ := Kd.R_slice HO1005.out; subst eo71) | (go_at_call 48; (with_reducible refine (laws_rInts.calls kj33 _ _ t998 _ _ t1002 true _ ?side1 ?side2 ?side3 ?side4 A59.out).mono ?_); (case side1 => repeat (first | exact (Kd.R_reads' HO1001.out).2.2 | (with_reducible refine Kd.C_alloc ?_ _) | (with_reducible refine Kd.C_drewN ?_ _) | (with_reducible refine Kd.C_drew ?_))); (case side2 => exact (Kd.R_reads' HO1001.out).2.1); (case side3 => repeat (first | exact (Kd.R_reads' HO1005.out).2.2 | (with_reducible refine Kd.C_alloc ?_ _) | (with_reducible refine Kd.C_drewN ?_ _) | (with_reducible refine Kd.C_drew ?_))); (case side4 => exact (Kd.R_reads' HO1005.out).2.1); rintro e w' ⟨rfl, ⟨nd, rfl⟩⟩) | (go_at_call 17; (with_reducible refine (impl_IsValidPlan.calls kj33 _ _ t981 true _ ?side1 ?side2 A61.out).mono ?_); (case side1 => repeat (first | exact (Kd.R_reads' HO_17.out).2.2 | (with_reducible refine Kd.C_alloc ?_ _) | (with_reducible refine Kd.C_drewN ?_ _) | (with_reducible refine Kd.C_drew ?_))); (case side2 => exact (Kd.R_reads' HO_17.out).2.1); rintro e w72 ⟨rfl, hb⟩; have n0_ := Aside0.mk (Kd.R_below (by (with_reducible repeat (first | apply Kd.R_alloc | apply Kd.R_drewN | apply Kd.R_drew)); exact HO_14.out) hb); have n1_ := Aside0.mk (Kd.R_below (by (with_reducible repeat (first | apply Kd.R_alloc | apply Kd.R_drewN | apply Kd.R_drew)); exact HO_17.out) hb); have n2_ := Aside0.mk (Kd.R_below (by (with_reducible repeat (first | apply Kd.R_alloc | apply Kd.R_drewN | apply Kd.R_drew)); exact HO997.out) hb); have n3_ := Aside0.mk (Kd.R_below (by (with_reducible repeat (first | apply Kd.R_alloc | apply Kd.R_drewN | apply Kd.R_drew)); exact HO1001.out) hb); have n4_ := Aside0.mk (Kd.R_below (by (with_reducible repeat (first | apply Kd.R_alloc | apply Kd.R_drewN | apply Kd.R_drew)); exact HO1005.out) hb); have n5_ := Aside0.mk (below_step (by repeat (first | (with_reducible first | exact HB.out | apply below_alloc | apply pw_below_drewN | apply below_drew1) | exact HB.out)) hb); clear HO_14 HO_17 HO997 HO1001 HO1005 HB; have HO_14 := n0_; have HO_17 := n1_; have HO997 := n2_; have HO1001 := n3_; have HO1005 := n4_; have HB := n5_; clear n0_ n1_ n2_ n3_ n4_ n5_; (try clear hb hb2 hk hi)))
               go_meet
               case rel => exact ⟨_, H', ⟨by have := HJ6.out; have := HK2.out; have := HJ16.out; have := HJ33.out; first | omega | exact Nat.le_refl _⟩, ⟨HB.out⟩⟩
             case rest =>
              as_aux_lemma =>
               clear HC44
               try clear c1
               try clear c2
               try clear p2
               try clear c3
               try clear c4
               try clear c5
               try clear c6
               try clear p6
               try clear c12
               try clear c12b0
               try clear c12b1
               try clear c12b2
               try clear c13
               try clear c16
               try clear c18
               try clear c19
               try clear c20
               try clear c21
               try clear c23
               try clear c23b0
               try clear c23b1
               try clear c23b2
               try clear c24
               try clear c35
               try clear c36
               try clear c38
               try clear c39
               try clear c39b0
               try clear c39b1
               try clear c39b2
               try clear c40
               try clear c41
               try clear c43
               try clear c45
               try clear c47
               try clear c49
               try clear c51
               try clear c52
               try clear c53
               try clear c54
               try clear c55
               try clear c56
               try clear c56b0
               try clear c56b1
               try clear c58
               try clear c60
               try clear c62
               try clear p64
               try clear p2
               try clear p6
               obtain ⟨kq, HA, HJ43, HB⟩ := hcut
               cases kq with
               | zero => exact absurd HA.out (by simp [laws_FnCover.j4])
               | succ kj43 =>
                have H := HA.out
                clear HA
                simp only [laws_FnCover.j4] at H
                replace H := Option.bind_eq_some_iff.mp H
                obtain ⟨t1009, A1350, H⟩ := H
                replace H : ((impl_HandoverHours.f kj43 t1009).bind fun bt1012 => ((spec_HandoverHours.f kj43 t1009).bind fun bt1016 => (if (bt1012.2 == bt1016.2) = true then ((laws_rInts.f kj43 bt1012.1 bt1016.1).bind fun t1020 => (some t1020)) else (some false)))) = some r := H
                have A135 := Aside0.mk A1350
                clear A1350
                replace H := Option.bind_eq_some_iff.mp H
                obtain ⟨⟨t1012, t1013⟩, A1360, H⟩ := H
                replace H : ((spec_HandoverHours.f kj43 t1009).bind fun bt1016 => (if (t1013 == bt1016.2) = true then ((laws_rInts.f kj43 t1012 bt1016.1).bind fun t1020 => (some t1020)) else (some false))) = some r := H
                have A136 := Aside0.mk A1360
                clear A1360
                replace H := Option.bind_eq_some_iff.mp H
                obtain ⟨⟨t1016, t1017⟩, A1370, H⟩ := H
                replace H : (if (t1013 == t1017) = true then ((laws_rInts.f kj43 t1012 t1016).bind fun t1020 => (some t1020)) else (some false)) = some r := H
                have A137 := Aside0.mk A1370
                clear A1370
                by_cases c138 : (t1013 == t1017) = true
                rotate_left
                ·
                 rw [if_neg c138] at H
                 have c138b0 : (t1013 == t1017) = false := by simpa using c138
                 (try (have c138b1 : decide (t1013 = t1017) = false := by simpa using c138))
                 (try (have c138b2 : (t1013 == t1017) = false := by simpa using c138))
                 (try (have c138b3 : ¬ (t1013 = t1017) := by simpa using c138))
                 clear c138
                 exact absurd ((Option.some.inj H).trans hrt_) (by decide)
                rw [if_pos c138] at H
                have c138b0 : (t1013 == t1017) = true := c138
                (try (have c138b1 : decide (t1013 = t1017) = true := by simpa using c138))
                (try (have c138b2 : (t1013 == t1017) = true := by simpa using c138))
                clear c138
                replace H := Option.bind_eq_some_iff.mp H
                obtain ⟨t1020, A1390, H⟩ := H
                replace H : (some t1020) = some r := H
                have A139 := Aside0.mk A1390
                clear A1390
                obtain rfl := Option.some.inj H
                go_wp2_with (first | ((with_reducible refine gate_callee (f := 50) rfl ?_); refine goesL_ (some 197) rfl rfl Try.func50 (by kernel_rfl) rfl #[.slice A0 l0.length c0] rfl (by simp only [List.map_toArray, List.map_cons, List.map_nil] <;> rfl) ?_; (with_reducible refine (spec_DrawHandoverHours.calls kj43 _ _ l0 t1009 _ ?side1 ?side2 A135.out).mono ?_); (case side1 => repeat (first | exact (Kd.C_below HR0.out HB.out) | (with_reducible refine Kd.C_alloc ?_ _) | (with_reducible refine Kd.C_drewN ?_ _) | (with_reducible refine Kd.C_drew ?_))); (case side2 => exact HC0.out); rintro e w140 ⟨v1010, rfl, ho0, hb⟩; refine ⟨_, rfl, ?_⟩; have n0_ := Aside0.mk (Kd.R_lower ho0 (below_size HB.out)); have n1_ := Aside0.mk (below_step HB.out hb); clear HB; have HO1011 := n0_; have HB := n1_; clear n0_ n1_; (try clear hb hb2 hk hi); (try clear ho0); obtain ⟨Ao141, co141, eo141⟩ := Kd.R_slice HO1011.out; subst eo141) | ((with_reducible refine gate_callee (f := 40) rfl ?_); refine goesL_ (some 200) rfl rfl Try.func40 (by kernel_rfl) rfl #[.slice Ao141 t1009.length co141] rfl (by simp only [List.map_toArray, List.map_cons, List.map_nil] <;> rfl) ?_; (with_reducible refine (impl_HandoverHours.calls kj43 _ _ t1009 t1012 t1013 _ ?side1 ?side2 A136.out).mono ?_); (case side1 => repeat (first | exact (Kd.R_reads' HO1011.out).2.2 | (with_reducible refine Kd.C_alloc ?_ _) | (with_reducible refine Kd.C_drewN ?_ _) | (with_reducible refine Kd.C_drew ?_))); (case side2 => exact (Kd.R_reads' HO1011.out).2.1); rintro e w142 ⟨v1014, rfl, ho0, hb⟩; refine ⟨_, rfl, ?_⟩; have n0_ := Aside0.mk (Kd.R_below (by (with_reducible repeat (first | apply Kd.R_alloc | apply Kd.R_drewN | apply Kd.R_drew)); exact HO1011.out) hb); have n1_ := Aside0.mk (Kd.R_lower ho0 (below_size HB.out)); have n2_ := Aside0.mk (below_step HB.out hb); clear HO1011 HB; have HO1011 := n0_; have HO1015 := n1_; have HB := n2_; clear n0_ n1_ n2_; (try clear hb hb2 hk hi); (try clear ho0)) | ((with_reducible refine gate_callee (f := 39) rfl ?_); refine goesL_ (some 205) rfl rfl Try.func39 (by kernel_rfl) rfl #[.slice Ao141 t1009.length co141] rfl (by simp only [List.map_toArray, List.map_cons, List.map_nil] <;> rfl) ?_; (with_reducible refine (spec_HandoverHours.calls kj43 _ _ t1009 t1016 t1017 _ ?side1 ?side2 A137.out).mono ?_); (case side1 => repeat (first | exact (Kd.R_reads' HO1011.out).2.2 | (with_reducible refine Kd.C_alloc ?_ _) | (with_reducible refine Kd.C_drewN ?_ _) | (with_reducible refine Kd.C_drew ?_))); (case side2 => exact (Kd.R_reads' HO1011.out).2.1); rintro e w143 ⟨v1018, rfl, ho0, hb⟩; refine ⟨_, rfl, ?_⟩; have n0_ := Aside0.mk (Kd.R_below (by (with_reducible repeat (first | apply Kd.R_alloc | apply Kd.R_drewN | apply Kd.R_drew)); exact HO1011.out) hb); have n1_ := Aside0.mk (Kd.R_elder' (by (with_reducible repeat (first | apply Kd.R_alloc | apply Kd.R_drewN | apply Kd.R_drew)); exact HO1015.out) (Kd.R_base ho0) hb); have n2_ := Aside0.mk (Kd.R_lower (Kd.R_new' ho0 (Kd.R_lt (by (with_reducible repeat (first | apply Kd.R_alloc | apply Kd.R_drewN | apply Kd.R_drew)); exact HO1015.out))) (below_size HB.out)); have n3_ := Aside0.mk (below_step HB.out hb); clear HO1011 HO1015 HB; have HO1011 := n0_; have HO1015 := n1_; have HO1019 := n2_; have HB := n3_; clear n0_ n1_ n2_ n3_; (try clear hb hb2 hk hi); (try clear ho0); obtain ⟨Ao144, co144, eo144⟩ := Kd.R_slice HO1015.out; subst eo144; obtain ⟨Ao145, co145, eo145⟩ := Kd.R_slice HO1019.out; subst eo145) | (go_at_call 48; (with_reducible refine (laws_rInts.calls kj43 _ _ t1012 _ _ t1016 t1020 _ ?side1 ?side2 ?side3 ?side4 A139.out).mono ?_); (case side1 => repeat (first | exact (Kd.R_reads' HO1015.out).2.2 | (with_reducible refine Kd.C_alloc ?_ _) | (with_reducible refine Kd.C_drewN ?_ _) | (with_reducible refine Kd.C_drew ?_))); (case side2 => exact (Kd.R_reads' HO1015.out).2.1); (case side3 => repeat (first | exact (Kd.R_reads' HO1019.out).2.2 | (with_reducible refine Kd.C_alloc ?_ _) | (with_reducible refine Kd.C_drewN ?_ _) | (with_reducible refine Kd.C_drew ?_))); (case side4 => exact (Kd.R_reads' HO1019.out).2.1); rintro e w' ⟨rfl, ⟨nd, rfl⟩⟩))
                go_ret
                exact ⟨by first | rfl | (simp [*, errW_none, errW_some] <;> rfl), by repeat (first | (with_reducible first | exact HB.out | apply below_alloc | apply pw_below_drewN | apply below_drew1) | exact HB.out)⟩
/-- THE ONE PURE STATEMENT of laws_FnCover: yours. -/
def laws_FnCover.Pure : Prop := ∀ (l0 : List Int), l0.length ≤ maxLen → l0.length * 1 ≤ 140737488351232 → (∀ x ∈ l0, (Lit.int .u8 x).wf = true) → ∃ k, laws_FnCover.f k l0 = some true
theorem laws_FnCover.walk (P : laws_FnCover.Pure) (a0 : Option Addr) (len0 cap0 : Nat) (z0 : List Int) (w : World) (w0 : (a0 = none ∧ len0 = 0 ∧ cap0 = 0 ∧ z0 = []) ∨ ∃ x, a0 = some x ∧ len0 ≤ cap0 ∧ cap0 ≤ maxLen ∧ z0.length = cap0 ∧ (∀ i, i < z0.length → w.cell? (x.add i) = some (.int .u8 (z0.getD i 0))) ∧ ∀ n ∈ z0, (Lit.int .u8 n).wf = true) (y0 : len0 * 1 ≤ 140737488351232) :
  Calls Try.prog 13 #[.slice a0 len0 cap0] w fun e w' => e = .returned (.bool true) ∧ Below w.heap.size w w' := by
 obtain ⟨l0, rfl, hr0, hm0, hw0, hc0⟩ := ReadsInt.ofRowC w0
 obtain ⟨k, h⟩ := P l0 hm0 y0 hw0
 refine (laws_FnCover.calls k _ _ l0 true w (Kd.C_of_reads (d := (0 : Int)) (h1 := fun _ => rfl) hr0) hc0 h rfl).mono ?_
 rintro e w' ⟨rfl, hd⟩
 exact ⟨rfl, hd⟩

end Go.Proofs.Ythhjhbndnipdgaa.P
