-- Made by pp.py of this session out of the kit's print and of contracts proved by hand; Lean checks it.
import Derived.Test.YtdpopkpoogmboaaDoorPx0
import Derived.Test.YtdpopkpoogmboaaDoorPx1
import Derived.Test.YtdpopkpoogmboaaDoorPx8
import Derived.Test.YtdpopkpoogmboaaDoorPx13
import Derived.Test.YtdpopkpoogmboaaDoorPx15
import Derived.Test.YtdpopkpoogmboaaDoorPx20
import Derived.Test.YtdpopkpoogmboaaDoorPx21
import Derived.Test.YtdpopkpoogmboaaDoorPx27
import Derived.Test.YtdpopkpoogmboaaDoorPx28
import Derived.Test.YtdpopkpoogmboaaDoorPx30
import Derived.Test.YtdpopkpoogmboaaDoorPx46
namespace Go.Proofs.YtdpopkpoogmboaaDoor.P
open Go.RowKit Go.Proofs.YtdpopkpoogmboaaDoorW.PrintWords Go.Proofs.YtdpopkpoogmboaaDoorW.PrintLast Go.Proofs.YtdpopkpoogmboaaDoorW.PrintMore
attribute [local go_sem] max2_int min2_int max_two min_two max_three min_three max_four min_four   -- for this text's walks alone
set_option linter.unusedVariables false
set_option linter.unusedSimpArgs false

attribute [local go_sem high] eqA27
/-! ### laws_FnCrashRecovery: function 12 -/
mutual
def laws_FnCrashRecovery.j0 : Nat → ByteArray → Bool → Bool → ByteArray → ByteArray → Int → Option (Bool)
 | 0, _, _, _, _, _, _ => none
 | k + 1, x6, x7, x47, x682000, x682001, x682002 => if x47 = true then (some false) else (if x7 = true then ((impl_RecoverLog.f k x6).bind fun bt686 => ((impl_LogRecords.f k bt686.1 bt686.2.1 bt686.2.2.1).bind fun bt692 => ((spec_LogRecords.f k x682000 x682001 x682002).bind fun bt696 => (if bt686.2.2.2.2 = true then (if bt686.2.2.2.1 > (x6.size : Int) then (laws_FnCrashRecovery.j1 k x6 bt686.2.2.2.1 bt692.1 bt696.1 true bt686.1 bt686.2.1 bt686.2.2.1) else (if bt686.2.2.2.1 < (x682000.size : Int) then (laws_FnCrashRecovery.j1 k x6 bt686.2.2.2.1 bt692.1 bt696.1 true bt686.1 bt686.2.1 bt686.2.2.1) else (laws_FnCrashRecovery.j1 k x6 bt686.2.2.2.1 bt692.1 bt696.1 (decide ((bt692.1.length : Int) > (bt696.1.length : Int))) bt686.1 bt686.2.1 bt686.2.2.1))) else (laws_FnCrashRecovery.j1 k x6 bt686.2.2.2.1 bt692.1 bt696.1 true bt686.1 bt686.2.1 bt686.2.2.1))))) else (some (x6.toList == ([] : List UInt8))))
def laws_FnCrashRecovery.j1 : Nat → ByteArray → Int → List (S27) → List (S27) → Bool → ByteArray → ByteArray → Int → Option (Bool)
 | 0, _, _, _, _, _, _, _, _ => none
 | k + 1, x6, x11, x13, x15, x89, x692000, x692001, x692002 => if x89 = true then (some false) else (laws_FnCrashRecovery.l0 k x6 x11 x13 x15 0 x692000 x692001 x692002)
def laws_FnCrashRecovery.l0 : Nat → ByteArray → Int → List (S27) → List (S27) → Int → ByteArray → ByteArray → Int → Option (Bool)
 | 0, _, _, _, _, _, _, _, _ => none
 | k + 1, x6, x11, x13, x15, x17, x692000, x692001, x692002 => if x17 < (x13.length : Int) then (if 0 ≤ x17 then (if x17 < (x15.length : Int) then (if (!((((rd_T27 x13 x17).f0).toList) == (((rd_T27 x15 x17).f0).toList)) || (!((((rd_T27 x13 x17).f1).toList) == (((rd_T27 x15 x17).f1).toList)))) = true then (some false) else (laws_FnCrashRecovery.l0 k x6 x11 x13 x15 (wrap64 (x17 + 1)) x692000 x692001 x692002)) else (none)) else (none)) else ((impl_IsValidLog.f k x692000 x692001 x692002).bind fun t702 => (if t702 = true then (if 0 ≤ x11 then (if x11 ≤ (x6.size : Int) then (some (x692000.toList == (x6.extract 0 (x11 : Int).toNat).toList)) else (none)) else (none)) else (some false)))
end
def laws_FnCrashRecovery.f (k : Nat) (l0 : List Int) : Option (Bool) := (laws_vBig.f l0).bind fun t675 => (if t675 = true then (some true) else ((spec_DrawCrashLog.f k l0).bind fun bt676 => ((impl_CrashLog.f k bt676.1 bt676.2.1 bt676.2.2.1 bt676.2.2.2.1 bt676.2.2.2.2).bind fun bt682 => ((spec_CrashLog.f k bt676.1 bt676.2.1 bt676.2.2.1 bt676.2.2.2.1 bt676.2.2.2.2).bind fun bt684 => (if bt682.1.toList = bt684.1.toList then (laws_FnCrashRecovery.j0 k bt682.1 bt682.2 (bt682.2 != bt684.2) bt676.1 bt676.2.1 bt676.2.2.1) else (laws_FnCrashRecovery.j0 k bt682.1 bt682.2 true bt676.1 bt676.2.1 bt676.2.2.1))))))
def laws_FnCrashRecovery.T18 : Bool × List (List Nat × List Nat) := (true, [([], []), ([], []), ([0, 1], [0, 1]), ([2], [2]), ([], []), ([], []), ([4, 5], [4, 5]), ([6], [6]), ([3, 7], [3, 7])])
def laws_FnCrashRecovery.B18 : List Nat := [0, 0, 3, 7, 0, 0, 48, 112, 255]
theorem laws_FnCrashRecovery.tab18 : rtab .any (opsOf Tryd.f12 18) = laws_FnCrashRecovery.T18 := by kernel_rfl
theorem laws_FnCrashRecovery.bits18 : waitsOk laws_FnCrashRecovery.T18.2 laws_FnCrashRecovery.B18 = true := by kernel_rfl
def laws_FnCrashRecovery.T20 : Bool × List (List Nat × List Nat) := (true, [([], []), ([0], [0]), ([1, 1], [1]), ([2], [2]), ([3, 2], [2, 3]), ([2], [2]), ([2], [2]), ([5, 6, 2], [2, 5, 6]), ([4, 7, 2], [2, 4, 7]), ([2, 8], [2, 8]), ([9, 2, 0, 1, 2, 3, 4, 5, 6, 7, 8, 9], [9])])
def laws_FnCrashRecovery.B20 : List Nat := [0, 1, 3, 7, 15, 7, 7, 103, 255, 511, 1023]
theorem laws_FnCrashRecovery.tab20 : rtab .any (opsOf Tryd.f12 20) = laws_FnCrashRecovery.T20 := by kernel_rfl
theorem laws_FnCrashRecovery.bits20 : waitsOk laws_FnCrashRecovery.T20.2 laws_FnCrashRecovery.B20 = true := by kernel_rfl
set_option maxHeartbeats 8000000 in
set_option maxRecDepth 100000 in
theorem laws_FnCrashRecovery.calls (k : Nat) (A0 : Option Addr) (c0 : Nat) (l0 : List Int) (r : Bool) (w : World) (hr0 : Kd.C (Kd.int .u8) w A0 l0.length l0) (hc0 : l0.length ≤ c0) (h : laws_FnCrashRecovery.f k l0 = some r) (hrt_ : r = true) (hG_ : GW w) :
  Calls Tryd.prog 12 #[.slice A0 l0.length c0] w fun e w' => e = .returned (.bool r) ∧ Below w.heap.size w w' := by
 have HG := Aside0.mk hG_
 clear hG_
 have hu31 := Tryd.underlying31
 have hu27 := Tryd.underlying27
 have HR0 := Aside0.mk hr0
 have HC0 := Aside0.mk hc0
 clear hr0 hc0
 have HB := Aside0.mk (Below.refl w.heap.size w)
 have H : ((laws_vBig.f l0).bind fun t675 => (if t675 = true then (some true) else ((spec_DrawCrashLog.f k l0).bind fun bt676 => ((impl_CrashLog.f k bt676.1 bt676.2.1 bt676.2.2.1 bt676.2.2.2.1 bt676.2.2.2.2).bind fun bt682 => ((spec_CrashLog.f k bt676.1 bt676.2.1 bt676.2.2.1 bt676.2.2.2.1 bt676.2.2.2.2).bind fun bt684 => (if bt682.1.toList = bt684.1.toList then (laws_FnCrashRecovery.j0 k bt682.1 bt682.2 (bt682.2 != bt684.2) bt676.1 bt676.2.1 bt676.2.2.1) else (laws_FnCrashRecovery.j0 k bt682.1 bt682.2 true bt676.1 bt676.2.1 bt676.2.2.1))))))) = some r := h
 clear h
 replace H := Option.bind_eq_some_iff.mp H
 obtain ⟨t675, A20, H⟩ := H
 replace H : (if t675 = true then (some true) else ((spec_DrawCrashLog.f k l0).bind fun bt676 => ((impl_CrashLog.f k bt676.1 bt676.2.1 bt676.2.2.1 bt676.2.2.2.1 bt676.2.2.2.2).bind fun bt682 => ((spec_CrashLog.f k bt676.1 bt676.2.1 bt676.2.2.1 bt676.2.2.2.1 bt676.2.2.2.2).bind fun bt684 => (if bt682.1.toList = bt684.1.toList then (laws_FnCrashRecovery.j0 k bt682.1 bt682.2 (bt682.2 != bt684.2) bt676.1 bt676.2.1 bt676.2.2.1) else (laws_FnCrashRecovery.j0 k bt682.1 bt682.2 true bt676.1 bt676.2.1 bt676.2.2.1)))))) = some r := H
 have A2 := Aside0.mk A20
 clear A20
 by_cases c3 : t675 = true
 ·
  subst c3
  have H1 : (some true) = some r := by rw [if_pos rfl] at H; exact H
  clear H
  have H := H1
  clear H1
  obtain rfl := Option.some.inj H
  go_enter Tryd.func12, Tryd.ntmps12
  go_wp2_with (first | ((with_reducible refine gate_callee (f := 35) rfl ?_); refine goesL_ (some 19) rfl rfl Tryd.func35 (by kernel_rfl) rfl #[.slice A0 l0.length c0] rfl (by (try simp only [List.map_toArray, List.map_cons, List.map_nil]); first | done | rfl | (simp only [List.length_drop, List.length_take]; rfl)) ?_; (with_reducible refine (laws_vBig.calls _ _ l0 true _ ?side1 ?side2 A2.out).mono ?_); (case side1 => repeat (first | exact HR0.out | (with_reducible refine Kd.C_alloc ?_ _) | (with_reducible refine Kd.C_drewN ?_ _) | (with_reducible refine Kd.C_drew ?_))); (case side2 => exact HC0.out); rintro e w' ⟨rfl, ⟨nd, rfl⟩⟩; refine ⟨_, rfl, ?_⟩))
  go_ret
  exact ⟨by first | rfl | (simp [errW_none, errW_some] <;> rfl) | (simp [*, errW_none, errW_some] <;> rfl), by repeat (first | (with_reducible first | exact HB.out | apply below_alloc | apply pw_below_drewN | apply below_drew1) | exact HB.out)⟩
 ·
  replace c3 := Bool.eq_false_iff.mpr c3
  subst c3
  have H1 : ((spec_DrawCrashLog.f k l0).bind fun bt676 => ((impl_CrashLog.f k bt676.1 bt676.2.1 bt676.2.2.1 bt676.2.2.2.1 bt676.2.2.2.2).bind fun bt682 => ((spec_CrashLog.f k bt676.1 bt676.2.1 bt676.2.2.1 bt676.2.2.2.1 bt676.2.2.2.2).bind fun bt684 => (if bt682.1.toList = bt684.1.toList then (laws_FnCrashRecovery.j0 k bt682.1 bt682.2 (bt682.2 != bt684.2) bt676.1 bt676.2.1 bt676.2.2.1) else (laws_FnCrashRecovery.j0 k bt682.1 bt682.2 true bt676.1 bt676.2.1 bt676.2.2.1))))) = some r := by rw [if_neg (show ¬ (false = true) by decide)] at H; exact H
  clear H
  have H := H1
  clear H1
  replace H := Option.bind_eq_some_iff.mp H
  obtain ⟨⟨t676, t677, t678, t679, t680⟩, A40, H⟩ := H
  replace H : ((impl_CrashLog.f k t676 t677 t678 t679 t680).bind fun bt682 => ((spec_CrashLog.f k t676 t677 t678 t679 t680).bind fun bt684 => (if bt682.1.toList = bt684.1.toList then (laws_FnCrashRecovery.j0 k bt682.1 bt682.2 (bt682.2 != bt684.2) t676 t677 t678) else (laws_FnCrashRecovery.j0 k bt682.1 bt682.2 true t676 t677 t678)))) = some r := H
  have A4 := Aside0.mk A40
  clear A40
  replace H := Option.bind_eq_some_iff.mp H
  obtain ⟨⟨t682, t683⟩, A50, H⟩ := H
  replace H : ((spec_CrashLog.f k t676 t677 t678 t679 t680).bind fun bt684 => (if t682.toList = bt684.1.toList then (laws_FnCrashRecovery.j0 k t682 t683 (t683 != bt684.2) t676 t677 t678) else (laws_FnCrashRecovery.j0 k t682 t683 true t676 t677 t678))) = some r := H
  have A5 := Aside0.mk A50
  clear A50
  replace H := Option.bind_eq_some_iff.mp H
  obtain ⟨⟨t684, t685⟩, A60, H⟩ := H
  replace H : (if t682.toList = t684.toList then (laws_FnCrashRecovery.j0 k t682 t683 (t683 != t685) t676 t677 t678) else (laws_FnCrashRecovery.j0 k t682 t683 true t676 t677 t678)) = some r := H
  have A6 := Aside0.mk A60
  clear A60
  have HC7 := Aside0.mk H
  clear H
  go_enter Tryd.func12, Tryd.ntmps12
  go_upto_region 6 with (first | ((with_reducible refine gate_callee (f := 35) rfl ?_); refine goesL_ (some 19) rfl rfl Tryd.func35 (by kernel_rfl) rfl #[.slice A0 l0.length c0] rfl (by (try simp only [List.map_toArray, List.map_cons, List.map_nil]); first | done | rfl | (simp only [List.length_drop, List.length_take]; rfl)) ?_; (with_reducible refine (laws_vBig.calls _ _ l0 false _ ?side1 ?side2 A2.out).mono ?_); (case side1 => repeat (first | exact HR0.out | (with_reducible refine Kd.C_alloc ?_ _) | (with_reducible refine Kd.C_drewN ?_ _) | (with_reducible refine Kd.C_drew ?_))); (case side2 => exact HC0.out); rintro e w' ⟨rfl, ⟨nd, rfl⟩⟩; refine ⟨_, rfl, ?_⟩) | ((with_reducible refine gate_callee (f := 41) rfl ?_); refine goesL_ (some 22) rfl rfl Tryd.func41 (by kernel_rfl) rfl #[.slice A0 l0.length c0] rfl (by (try simp only [List.map_toArray, List.map_cons, List.map_nil]); first | done | rfl | (simp only [List.length_drop, List.length_take]; rfl)) ?_; (with_reducible refine (spec_DrawCrashLog.calls k _ _ l0 t676 t677 t678 t679 t680 _ ?side1 ?side2 A4.out).mono ?_); (case side1 => repeat (first | exact HR0.out | (with_reducible refine Kd.C_alloc ?_ _) | (with_reducible refine Kd.C_drewN ?_ _) | (with_reducible refine Kd.C_drew ?_))); (case side2 => exact HC0.out); rintro e w8 ⟨rfl, hb⟩; refine ⟨_, rfl, ?_⟩; have n0_ := Aside0.mk (below_step (by repeat (first | (with_reducible first | exact HB.out | apply below_alloc | apply pw_below_drewN | apply below_drew1) | exact HB.out)) hb); clear HB; have HB := n0_; clear n0_; (try clear hb); (try clear hb2); (try clear hk); (try clear hi)) | ((with_reducible refine gate_dst (N := 3) rfl ?_); (try (refine gate_guard (by rfl) ?_; dsimp only)); refine box_event ?hg (N := 3) ?hd (cs := #[.string (⟨#[]⟩ : ByteArray), .string (⟨#[]⟩ : ByteArray), .int .i64 0]) (t := 31) ?hr ?_; (case hd => rfl); (case hg => rfl); (case hr => first | (go_simp; done) | (go_simp; rfl)); intro gb681 hg w9 hbox hb; have n0_ := Aside0.mk (below_step (by repeat (first | (with_reducible first | exact HB.out | apply below_alloc | apply pw_below_drewN | apply below_drew1) | exact HB.out)) hb); have n1_ := Aside0.mk (hbox); have n2_ := Aside0.mk ((by rw [hg]; exact (below_size (by repeat (first | (with_reducible first | exact HB.out | apply below_alloc | apply pw_below_drewN | apply below_drew1) | exact HB.out))) : w.heap.size ≤ gb681)); have n3_ := Aside0.mk ((by rw [hg]; exact (below_size (by repeat (first | (with_reducible first | exact HB.out | apply below_alloc | apply pw_below_drewN | apply below_drew1) | exact HB.out))) : w.heap.size ≤ gb681)); clear HB; have HB := n0_; have BK681 := n1_; have GW681 := n2_; have GE681 := n3_; clear n0_ n1_ n2_ n3_; clear hb hbox hg; have hcz10_0 : w9.cell? ⟨gb681, 0, none⟩ = some (.string (⟨#[]⟩ : ByteArray)) := (blk_cell BK681.out 0).trans rfl; have hcz10_1 : w9.cell? ⟨gb681, 1, none⟩ = some (.string (⟨#[]⟩ : ByteArray)) := (blk_cell BK681.out 1).trans rfl; have hcz10_2 : w9.cell? ⟨gb681, 2, none⟩ = some (.int .i64 0) := (blk_cell BK681.out 2).trans rfl; have hfz10_0 := blk_frozen BK681.out 0; have hfz10_1 := blk_frozen BK681.out 1; have hfz10_2 := blk_frozen BK681.out 2) | ((with_reducible refine gate_callee (f := 25) rfl ?_); refine goesL_ (some 30) rfl rfl Tryd.func25 (by kernel_rfl) rfl #[.agg #[.string t676, .string t677, .int .i64 t678], .int .i64 t679, .bool t680] rfl (by (try simp only [List.map_toArray, List.map_cons, List.map_nil]); first | done | rfl | (simp only [List.length_drop, List.length_take]; rfl)) ?_; (with_reducible refine (impl_CrashLog.calls k t676 t677 t678 t679 t680 t682 t683 _ A5.out ?sideG).mono ?_); (case sideG => exact (gw_below HG.out (by repeat (first | (with_reducible first | exact HB.out | apply below_alloc | apply pw_below_drewN | apply below_drew1 | refine below_set ?_ GE681.out) | exact HB.out)))); rintro e w11 ⟨rfl, hb⟩; refine ⟨_, rfl, ?_⟩; have n0_ := Aside0.mk (blk_below (g := gb681) (o := .cells #[.string t676, .string t677, .int .i64 t678] 31 (0, 0)) (by (with_reducible repeat (first | refine blk_drewN ?_ _ | refine blk_drew ?_ | refine blk_alloc ?_ _)); refine blk_put (cs := #[.string t676, .string t677, .int .i64 0]) ?_ 2 _ rfl; (with_reducible repeat (first | refine blk_drewN ?_ _ | refine blk_drew ?_ | refine blk_alloc ?_ _)); refine blk_put (cs := #[.string t676, .string (⟨#[]⟩ : ByteArray), .int .i64 0]) ?_ 1 _ rfl; (with_reducible repeat (first | refine blk_drewN ?_ _ | refine blk_drew ?_ | refine blk_alloc ?_ _)); refine blk_put (cs := #[.string (⟨#[]⟩ : ByteArray), .string (⟨#[]⟩ : ByteArray), .int .i64 0]) ?_ 0 _ rfl; (with_reducible repeat (first | refine blk_drewN ?_ _ | refine blk_drew ?_ | refine blk_alloc ?_ _)); exact BK681.out) hb); have n1_ := Aside0.mk (below_step (by repeat (first | (with_reducible first | exact HB.out | apply below_alloc | apply pw_below_drewN | apply below_drew1 | refine below_set ?_ GE681.out) | exact HB.out)) hb); clear BK681; clear HB; have BK681 := n0_; have HB := n1_; clear n0_ n1_; (try clear hb); (try clear hb2); (try clear hk); (try clear hi); have hcz12_0 : w11.cell? ⟨gb681, 0, none⟩ = some (.string t676) := (blk_cell BK681.out 0).trans rfl; have hcz12_1 : w11.cell? ⟨gb681, 1, none⟩ = some (.string t677) := (blk_cell BK681.out 1).trans rfl; have hcz12_2 : w11.cell? ⟨gb681, 2, none⟩ = some (.int .i64 t678) := (blk_cell BK681.out 2).trans rfl; have hfz12_0 := blk_frozen BK681.out 0; have hfz12_1 := blk_frozen BK681.out 1; have hfz12_2 := blk_frozen BK681.out 2) | ((with_reducible refine gate_callee (f := 24) rfl ?_); refine goesL_ (some 37) rfl rfl Tryd.func24 (by kernel_rfl) rfl #[.agg #[.string t676, .string t677, .int .i64 t678], .int .i64 t679, .bool t680] rfl (by (try simp only [List.map_toArray, List.map_cons, List.map_nil]); first | done | rfl | (simp only [List.length_drop, List.length_take]; rfl)) ?_; (with_reducible refine (spec_CrashLog.calls k t676 t677 t678 t679 t680 t684 t685 _ A6.out).mono ?_); rintro e w13 ⟨rfl, hb⟩; refine ⟨_, rfl, ?_⟩; have n0_ := Aside0.mk (blk_below (g := gb681) (o := .cells #[.string t676, .string t677, .int .i64 t678] 31 (0, 0)) BK681.out hb); have n1_ := Aside0.mk (below_step (by repeat (first | (with_reducible first | exact HB.out | apply below_alloc | apply pw_below_drewN | apply below_drew1 | refine below_set ?_ GE681.out) | exact HB.out)) hb); clear BK681; clear HB; have BK681 := n0_; have HB := n1_; clear n0_ n1_; (try clear hb); (try clear hb2); (try clear hk); (try clear hi)))
  (try simp only [Act.put, List.setIfInBounds_toArray, List.set_cons_zero, List.set_cons_succ])
  go_cut [47] (fun v47 wc => ∃ (kq : Nat) (x47_6 : Bool), v47 = .bool x47_6 ∧ Aside0 (laws_FnCrashRecovery.j0 kq t682 t683 x47_6 t676 t677 t678 = some r) ∧ Aside0 (kq ≤ k) ∧ Aside0 (wc.heap[gb681]? = some (.cells #[.string t676, .string t677, .int .i64 t678] 31 (0, 0))) ∧ Aside0 (Below w.heap.size w wc))
  case first =>
   as_aux_lemma =>
    have H := HC7.out
    clear HC7
    by_cases c14 : t682.toList = t684.toList
    ·
     rw [if_pos c14] at H
     have c14b0 : (t682.toList == t684.toList) = true := beq_iff_eq.mpr c14
     have c14b1 : (t682.toList != t684.toList) = false := bne_eq_false_iff_eq.mpr c14
     clear c14
     (first | rw [c14b0] | (simp only [i64_w, i32_w]; rw [c14b0]) | skip)
     have H' := Aside0.mk H
     clear H
     go_wp2
     go_meet
     case rel => exact ⟨_, ((t683 != t685)), (by first | rfl | (simp; done) | (simp [*]; done)), H', ⟨by first | omega | exact Nat.le_refl _⟩, ⟨by (with_reducible repeat (first | refine blk_drewN ?_ _ | refine blk_drew ?_ | refine blk_alloc ?_ _)); exact BK681.out⟩, ⟨by repeat (first | (with_reducible first | exact HB.out | apply below_alloc | apply pw_below_drewN | apply below_drew1 | refine below_set ?_ GE681.out) | exact HB.out)⟩⟩
    ·
     rw [if_neg c14] at H
     have c14b0 : (t682.toList == t684.toList) = false := beq_eq_false_iff_ne.mpr c14
     have c14b1 : (t682.toList != t684.toList) = true := bne_iff_ne.mpr c14
     (first | rw [c14b0] | (simp only [i64_w, i32_w]; rw [c14b0]) | skip)
     have H' := Aside0.mk H
     clear H
     go_wp2
     go_meet
     case rel => exact ⟨_, (true), (by first | rfl | (simp; done) | (simp [*]; done)), H', ⟨by first | omega | exact Nat.le_refl _⟩, ⟨by (with_reducible repeat (first | refine blk_drewN ?_ _ | refine blk_drew ?_ | refine blk_alloc ?_ _)); exact BK681.out⟩, ⟨by repeat (first | (with_reducible first | exact HB.out | apply below_alloc | apply pw_below_drewN | apply below_drew1 | refine below_set ?_ GE681.out) | exact HB.out)⟩⟩
  case rest =>
   as_aux_lemma =>
    clear HC7
    try clear c1
    try clear c2
    try clear p2
    try clear c3
    try clear c4
    try clear c12
    try clear c14
    try clear c14b0
    try clear c14b1
    try clear hcz10_0
    try clear hcz10_1
    try clear hcz10_2
    try clear hcz12_0
    try clear hcz12_1
    try clear hcz12_2
    try clear hfz10_0
    try clear hfz10_1
    try clear hfz10_2
    try clear hfz12_0
    try clear hfz12_1
    try clear hfz12_2
    obtain ⟨kq, x47_6, rfl, HA, HJ6, BK681, HB⟩ := hcut
    cases kq with
    | zero => exact absurd HA.out (by simp [laws_FnCrashRecovery.j0])
    | succ kj6 =>
     have H := HA.out
     clear HA
     simp only [laws_FnCrashRecovery.j0] at H
     by_cases c15 : x47_6 = true
     ·
      subst c15
      have H1 : (some false) = some r := by rw [if_pos rfl] at H; exact H
      exact absurd ((Option.some.inj H1).trans hrt_) (by decide)
     ·
      replace c15 := Bool.eq_false_iff.mpr c15
      subst c15
      have H1 : (if t683 = true then ((impl_RecoverLog.f kj6 t682).bind fun bt686 => ((impl_LogRecords.f kj6 bt686.1 bt686.2.1 bt686.2.2.1).bind fun bt692 => ((spec_LogRecords.f kj6 t676 t677 t678).bind fun bt696 => (if bt686.2.2.2.2 = true then (if bt686.2.2.2.1 > (t682.size : Int) then (laws_FnCrashRecovery.j1 kj6 t682 bt686.2.2.2.1 bt692.1 bt696.1 true bt686.1 bt686.2.1 bt686.2.2.1) else (if bt686.2.2.2.1 < (t676.size : Int) then (laws_FnCrashRecovery.j1 kj6 t682 bt686.2.2.2.1 bt692.1 bt696.1 true bt686.1 bt686.2.1 bt686.2.2.1) else (laws_FnCrashRecovery.j1 kj6 t682 bt686.2.2.2.1 bt692.1 bt696.1 (decide ((bt692.1.length : Int) > (bt696.1.length : Int))) bt686.1 bt686.2.1 bt686.2.2.1))) else (laws_FnCrashRecovery.j1 kj6 t682 bt686.2.2.2.1 bt692.1 bt696.1 true bt686.1 bt686.2.1 bt686.2.2.1))))) else (some (t682.toList == ([] : List UInt8)))) = some r := by rw [if_neg (show ¬ (false = true) by decide)] at H; exact H
      clear H
      have H := H1
      clear H1
      by_cases c16 : t683 = true
      ·
       subst c16
       have H1 : ((impl_RecoverLog.f kj6 t682).bind fun bt686 => ((impl_LogRecords.f kj6 bt686.1 bt686.2.1 bt686.2.2.1).bind fun bt692 => ((spec_LogRecords.f kj6 t676 t677 t678).bind fun bt696 => (if bt686.2.2.2.2 = true then (if bt686.2.2.2.1 > (t682.size : Int) then (laws_FnCrashRecovery.j1 kj6 t682 bt686.2.2.2.1 bt692.1 bt696.1 true bt686.1 bt686.2.1 bt686.2.2.1) else (if bt686.2.2.2.1 < (t676.size : Int) then (laws_FnCrashRecovery.j1 kj6 t682 bt686.2.2.2.1 bt692.1 bt696.1 true bt686.1 bt686.2.1 bt686.2.2.1) else (laws_FnCrashRecovery.j1 kj6 t682 bt686.2.2.2.1 bt692.1 bt696.1 (decide ((bt692.1.length : Int) > (bt696.1.length : Int))) bt686.1 bt686.2.1 bt686.2.2.1))) else (laws_FnCrashRecovery.j1 kj6 t682 bt686.2.2.2.1 bt692.1 bt696.1 true bt686.1 bt686.2.1 bt686.2.2.1))))) = some r := by rw [if_pos rfl] at H; exact H
       clear H
       have H := H1
       clear H1
       replace H := Option.bind_eq_some_iff.mp H
       obtain ⟨⟨t686, t687, t688, t689, t690⟩, A170, H⟩ := H
       replace H : ((impl_LogRecords.f kj6 t686 t687 t688).bind fun bt692 => ((spec_LogRecords.f kj6 t676 t677 t678).bind fun bt696 => (if t690 = true then (if t689 > (t682.size : Int) then (laws_FnCrashRecovery.j1 kj6 t682 t689 bt692.1 bt696.1 true t686 t687 t688) else (if t689 < (t676.size : Int) then (laws_FnCrashRecovery.j1 kj6 t682 t689 bt692.1 bt696.1 true t686 t687 t688) else (laws_FnCrashRecovery.j1 kj6 t682 t689 bt692.1 bt696.1 (decide ((bt692.1.length : Int) > (bt696.1.length : Int))) t686 t687 t688))) else (laws_FnCrashRecovery.j1 kj6 t682 t689 bt692.1 bt696.1 true t686 t687 t688)))) = some r := H
       have A17 := Aside0.mk A170
       clear A170
       replace H := Option.bind_eq_some_iff.mp H
       obtain ⟨⟨t692, t695⟩, A180, H⟩ := H
       replace H : ((spec_LogRecords.f kj6 t676 t677 t678).bind fun bt696 => (if t690 = true then (if t689 > (t682.size : Int) then (laws_FnCrashRecovery.j1 kj6 t682 t689 t692 bt696.1 true t686 t687 t688) else (if t689 < (t676.size : Int) then (laws_FnCrashRecovery.j1 kj6 t682 t689 t692 bt696.1 true t686 t687 t688) else (laws_FnCrashRecovery.j1 kj6 t682 t689 t692 bt696.1 (decide ((t692.length : Int) > (bt696.1.length : Int))) t686 t687 t688))) else (laws_FnCrashRecovery.j1 kj6 t682 t689 t692 bt696.1 true t686 t687 t688))) = some r := H
       have A18 := Aside0.mk A180
       clear A180
       replace H := Option.bind_eq_some_iff.mp H
       obtain ⟨⟨t696, t699⟩, A190, H⟩ := H
       replace H : (if t690 = true then (if t689 > (t682.size : Int) then (laws_FnCrashRecovery.j1 kj6 t682 t689 t692 t696 true t686 t687 t688) else (if t689 < (t676.size : Int) then (laws_FnCrashRecovery.j1 kj6 t682 t689 t692 t696 true t686 t687 t688) else (laws_FnCrashRecovery.j1 kj6 t682 t689 t692 t696 (decide ((t692.length : Int) > (t696.length : Int))) t686 t687 t688))) else (laws_FnCrashRecovery.j1 kj6 t682 t689 t692 t696 true t686 t687 t688)) = some r := H
       have A19 := Aside0.mk A190
       clear A190
       have HC20 := Aside0.mk H
       clear H
       go_upto_region 13 with (first | ((with_reducible refine gate_callee (f := 18) rfl ?_); refine goesL_ (some 54) rfl rfl Tryd.func18 (by kernel_rfl) rfl #[.string t682] rfl (by (try simp only [List.map_toArray, List.map_cons, List.map_nil]); first | done | rfl | (simp only [List.length_drop, List.length_take]; rfl)) ?_; (with_reducible refine (impl_RecoverLog.calls kj6 t682 t686 t687 t688 t689 t690 _ A17.out ?sideG).mono ?_); (case sideG => exact (gw_below HG.out (by repeat (first | (with_reducible first | exact HB.out | apply below_alloc | apply pw_below_drewN | apply below_drew1 | refine below_set ?_ GE681.out) | exact HB.out)))); rintro e w21 ⟨rfl, hb⟩; refine ⟨_, rfl, ?_⟩; have n0_ := Aside0.mk (blk_below (g := gb681) (o := .cells #[.string t676, .string t677, .int .i64 t678] 31 (0, 0)) BK681.out hb); have n1_ := Aside0.mk (below_step (by repeat (first | (with_reducible first | exact HB.out | apply below_alloc | apply pw_below_drewN | apply below_drew1 | refine below_set ?_ GE681.out) | exact HB.out)) hb); clear BK681; clear HB; have BK681 := n0_; have HB := n1_; clear n0_ n1_; (try clear hb); (try clear hb2); (try clear hk); (try clear hi)) | ((with_reducible refine gate_dst (N := 10) rfl ?_); (try (refine gate_guard (by rfl) ?_; dsimp only)); refine box_event ?hg (N := 10) ?hd (cs := #[.string (⟨#[]⟩ : ByteArray), .string (⟨#[]⟩ : ByteArray), .int .i64 0]) (t := 31) ?hr ?_; (case hd => rfl); (case hg => rfl); (case hr => first | (go_simp; done) | (go_simp; rfl)); intro gb691 hg w22 hbox hb; have n0_ := Aside0.mk (blk_below (g := gb681) (o := .cells #[.string t676, .string t677, .int .i64 t678] 31 (0, 0)) BK681.out hb); have n1_ := Aside0.mk (below_step (by repeat (first | (with_reducible first | exact HB.out | apply below_alloc | apply pw_below_drewN | apply below_drew1 | refine below_set ?_ GE681.out) | exact HB.out)) hb); have n2_ := Aside0.mk (hbox); have n3_ := Aside0.mk ((by rw [hg]; exact (below_size (by repeat (first | (with_reducible first | exact HB.out | apply below_alloc | apply pw_below_drewN | apply below_drew1 | refine below_set ?_ GE681.out) | exact HB.out))) : w.heap.size ≤ gb691)); have n4_ := Aside0.mk ((by rw [hg]; exact (below_size (by repeat (first | (with_reducible first | exact HB.out | apply below_alloc | apply pw_below_drewN | apply below_drew1 | refine below_set ?_ GE681.out) | exact HB.out))) : w.heap.size ≤ gb691)); have n5_ := Aside0.mk ((by rw [hg]; exact Nat.ne_of_lt (blk_lt (g := gb681) (o := .cells #[.string t676, .string t677, .int .i64 t678] 31 (0, 0)) BK681.out) : gb681 ≠ gb691)); have n6_ := Aside0.mk ((by rw [hg]; exact Nat.ne_of_gt (blk_lt (g := gb681) (o := .cells #[.string t676, .string t677, .int .i64 t678] 31 (0, 0)) BK681.out) : gb691 ≠ gb681)); clear BK681; clear HB; have BK681 := n0_; have HB := n1_; have BK691 := n2_; have GW691 := n3_; have GE691 := n4_; have NB681_691 := n5_; have NB691_681 := n6_; clear n0_ n1_ n2_ n3_ n4_ n5_ n6_; clear hb hbox hg; have hnb23 := NB691_681.out; have hnc23 := NB681_691.out; have hcz24_0 : w22.cell? ⟨gb691, 0, none⟩ = some (.string (⟨#[]⟩ : ByteArray)) := (blk_cell BK691.out 0).trans rfl; have hcz24_1 : w22.cell? ⟨gb691, 1, none⟩ = some (.string (⟨#[]⟩ : ByteArray)) := (blk_cell BK691.out 1).trans rfl; have hcz24_2 : w22.cell? ⟨gb691, 2, none⟩ = some (.int .i64 0) := (blk_cell BK691.out 2).trans rfl; have hfz24_0 := blk_frozen BK691.out 0; have hfz24_1 := blk_frozen BK691.out 1; have hfz24_2 := blk_frozen BK691.out 2) | ((with_reducible refine gate_callee (f := 31) rfl ?_); refine goesL_ (some 60) rfl rfl Tryd.func31 (by kernel_rfl) rfl #[.agg #[.string t686, .string t687, .int .i64 t688]] rfl (by (try simp only [List.map_toArray, List.map_cons, List.map_nil]); first | done | rfl | (simp only [List.length_drop, List.length_take]; rfl)) ?_; (with_reducible refine (impl_LogRecords.calls kj6 t686 t687 t688 t692 t695 _ A18.out ?sideG).mono ?_); (case sideG => exact (gw_below HG.out (by repeat (first | (with_reducible first | exact HB.out | apply below_alloc | apply pw_below_drewN | apply below_drew1 | refine below_set ?_ GE681.out | refine below_set ?_ GE691.out) | exact HB.out)))); rintro e w25 ⟨v693, rfl, ho0, hb⟩; refine ⟨_, rfl, ?_⟩; have n0_ := Aside0.mk (Kd.R_lower ho0 (below_size (by repeat (first | (with_reducible first | exact HB.out | apply below_alloc | apply pw_below_drewN | apply below_drew1 | refine below_set ?_ GE681.out | refine below_set ?_ GE691.out) | exact HB.out)))); have n1_ := Aside0.mk (blk_below (g := gb681) (o := .cells #[.string t676, .string t677, .int .i64 t678] 31 (0, 0)) (by (with_reducible repeat (first | refine blk_drewN ?_ _ | refine blk_drew ?_ | refine blk_alloc ?_ _)); refine blk_far ?_ NB681_691.out _; (with_reducible repeat (first | refine blk_drewN ?_ _ | refine blk_drew ?_ | refine blk_alloc ?_ _)); refine blk_far ?_ NB681_691.out _; (with_reducible repeat (first | refine blk_drewN ?_ _ | refine blk_drew ?_ | refine blk_alloc ?_ _)); refine blk_far ?_ NB681_691.out _; (with_reducible repeat (first | refine blk_drewN ?_ _ | refine blk_drew ?_ | refine blk_alloc ?_ _)); exact BK681.out) hb); have n2_ := Aside0.mk (blk_below (g := gb691) (o := .cells #[.string t686, .string t687, .int .i64 t688] 31 (0, 0)) (by (with_reducible repeat (first | refine blk_drewN ?_ _ | refine blk_drew ?_ | refine blk_alloc ?_ _)); refine blk_put (cs := #[.string t686, .string t687, .int .i64 0]) ?_ 2 _ rfl; (with_reducible repeat (first | refine blk_drewN ?_ _ | refine blk_drew ?_ | refine blk_alloc ?_ _)); refine blk_put (cs := #[.string t686, .string (⟨#[]⟩ : ByteArray), .int .i64 0]) ?_ 1 _ rfl; (with_reducible repeat (first | refine blk_drewN ?_ _ | refine blk_drew ?_ | refine blk_alloc ?_ _)); refine blk_put (cs := #[.string (⟨#[]⟩ : ByteArray), .string (⟨#[]⟩ : ByteArray), .int .i64 0]) ?_ 0 _ rfl; (with_reducible repeat (first | refine blk_drewN ?_ _ | refine blk_drew ?_ | refine blk_alloc ?_ _)); exact BK691.out) hb); have n3_ := Aside0.mk (below_step (by repeat (first | (with_reducible first | exact HB.out | apply below_alloc | apply pw_below_drewN | apply below_drew1 | refine below_set ?_ GE681.out | refine below_set ?_ GE691.out) | exact HB.out)) hb); clear BK681; clear BK691; clear HB; have HO694 := n0_; have BK681 := n1_; have BK691 := n2_; have HB := n3_; clear n0_ n1_ n2_ n3_; (try clear hb); (try clear hb2); (try clear hk); (try clear hi); (try clear ho0); have hcz26_0 : w25.cell? ⟨gb681, 0, none⟩ = some (.string t676) := (blk_cell BK681.out 0).trans rfl; have hcz26_1 : w25.cell? ⟨gb681, 1, none⟩ = some (.string t677) := (blk_cell BK681.out 1).trans rfl; have hcz26_2 : w25.cell? ⟨gb681, 2, none⟩ = some (.int .i64 t678) := (blk_cell BK681.out 2).trans rfl; have hfz26_0 := blk_frozen BK681.out 0; have hfz26_1 := blk_frozen BK681.out 1; have hfz26_2 := blk_frozen BK681.out 2) | ((with_reducible refine gate_callee (f := 30) rfl ?_); refine goesL_ (some 65) rfl rfl Tryd.func30 (by kernel_rfl) rfl #[.agg #[.string t676, .string t677, .int .i64 t678]] rfl (by (try simp only [List.map_toArray, List.map_cons, List.map_nil]); first | done | rfl | (simp only [List.length_drop, List.length_take]; rfl)) ?_; (with_reducible refine (spec_LogRecords.calls kj6 t676 t677 t678 t696 t699 _ A19.out).mono ?_); rintro e w27 ⟨v697, rfl, ho0, hb⟩; refine ⟨_, rfl, ?_⟩; have n0_ := Aside0.mk (Kd.R_elder' (by (with_reducible repeat (first | apply Kd.R_alloc | apply Kd.R_drewN | apply Kd.R_drew)); exact HO694.out) (Kd.R_base ho0) hb); have n1_ := Aside0.mk (Kd.R_lower (Kd.R_new' ho0 (Kd.R_lt (by (with_reducible repeat (first | apply Kd.R_alloc | apply Kd.R_drewN | apply Kd.R_drew)); exact HO694.out))) (below_size (by repeat (first | (with_reducible first | exact HB.out | apply below_alloc | apply pw_below_drewN | apply below_drew1 | refine below_set ?_ GE681.out | refine below_set ?_ GE691.out) | exact HB.out)))); have n2_ := Aside0.mk (blk_below (g := gb681) (o := .cells #[.string t676, .string t677, .int .i64 t678] 31 (0, 0)) BK681.out hb); have n3_ := Aside0.mk (blk_below (g := gb691) (o := .cells #[.string t686, .string t687, .int .i64 t688] 31 (0, 0)) BK691.out hb); have n4_ := Aside0.mk (below_step (by repeat (first | (with_reducible first | exact HB.out | apply below_alloc | apply pw_below_drewN | apply below_drew1 | refine below_set ?_ GE681.out | refine below_set ?_ GE691.out) | exact HB.out)) hb); clear HO694; clear BK681; clear BK691; clear HB; have HO694 := n0_; have HO698 := n1_; have BK681 := n2_; have BK691 := n3_; have HB := n4_; clear n0_ n1_ n2_ n3_ n4_; (try clear hb); (try clear hb2); (try clear hk); (try clear hi); (try clear ho0)))
       (try simp only [Act.put, List.setIfInBounds_toArray, List.set_cons_zero, List.set_cons_succ])
       go_cut [89] (fun v89 wc => ∃ (kq : Nat) (x89_19 : Bool), v89 = .bool x89_19 ∧ Aside0 (laws_FnCrashRecovery.j1 kq t682 t689 t692 t696 x89_19 t686 t687 t688 = some r) ∧ Aside0 (kq ≤ kj6) ∧ Aside0 (Kd.R k27 27 wc w.heap.size (fun k_ => some k_ ≠ (v697 : Value).ownBlock) v693 t692) ∧ Aside0 (Kd.R k27 27 wc w.heap.size (fun k_ => some k_ ≠ (v693 : Value).ownBlock) v697 t696) ∧ Aside0 (wc.heap[gb681]? = some (.cells #[.string t676, .string t677, .int .i64 t678] 31 (0, 0))) ∧ Aside0 (wc.heap[gb691]? = some (.cells #[.string t686, .string t687, .int .i64 t688] 31 (0, 0))) ∧ Aside0 (Below w.heap.size w wc))
       case first =>
        as_aux_lemma =>
         have H := HC20.out
         clear HC20
         by_cases c28 : t690 = true
         ·
          subst c28
          have H1 : (if t689 > (t682.size : Int) then (laws_FnCrashRecovery.j1 kj6 t682 t689 t692 t696 true t686 t687 t688) else (if t689 < (t676.size : Int) then (laws_FnCrashRecovery.j1 kj6 t682 t689 t692 t696 true t686 t687 t688) else (laws_FnCrashRecovery.j1 kj6 t682 t689 t692 t696 (decide ((t692.length : Int) > (t696.length : Int))) t686 t687 t688))) = some r := by rw [if_pos rfl] at H; exact H
          clear H
          have H := H1
          clear H1
          by_cases c29 : t689 > (t682.size : Int)
          ·
           rw [if_pos c29] at H
           have c29b0 : decide ((t682.size : Int) < t689) = true := decide_eq_true c29
           clear c29
           (first | rw [c29b0] | (simp only [i64_w, i32_w]; rw [c29b0]) | skip)
           have H' := Aside0.mk H
           clear H
           go_wp2
           go_meet
           case rel => exact ⟨_, (true), (by first | rfl | (simp; done) | (simp [*]; done)), H', ⟨by have := HJ6.out; first | omega | exact Nat.le_refl _⟩, ⟨by (with_reducible repeat (first | apply Kd.R_alloc | apply Kd.R_drewN | apply Kd.R_drew)); exact Kd.R_mono HO694.out (fun _ hk => hk.2)⟩, ⟨by (with_reducible repeat (first | apply Kd.R_alloc | apply Kd.R_drewN | apply Kd.R_drew)); exact Kd.R_mono HO698.out (fun _ hk => hk.2)⟩, ⟨by (with_reducible repeat (first | refine blk_drewN ?_ _ | refine blk_drew ?_ | refine blk_alloc ?_ _)); exact BK681.out⟩, ⟨by (with_reducible repeat (first | refine blk_drewN ?_ _ | refine blk_drew ?_ | refine blk_alloc ?_ _)); exact BK691.out⟩, ⟨by repeat (first | (with_reducible first | exact HB.out | apply below_alloc | apply pw_below_drewN | apply below_drew1 | refine below_set ?_ GE681.out | refine below_set ?_ GE691.out) | exact HB.out)⟩⟩
          ·
           rw [if_neg c29] at H
           have c29b0 : decide ((t682.size : Int) < t689) = false := decide_eq_false c29
           clear c29
           (first | rw [c29b0] | (simp only [i64_w, i32_w]; rw [c29b0]) | skip)
           by_cases c30 : t689 < (t676.size : Int)
           ·
            rw [if_pos c30] at H
            have c30b0 : decide (t689 < (t676.size : Int)) = true := decide_eq_true c30
            clear c30
            have H' := Aside0.mk H
            clear H
            have hnb31 := NB681_691.out
            have hnc31 := NB691_681.out
            have hcz32_0 : w27.cell? ⟨gb681, 0, none⟩ = some (.string t676) := (blk_cell BK681.out 0).trans rfl
            have hcz32_1 : w27.cell? ⟨gb681, 1, none⟩ = some (.string t677) := (blk_cell BK681.out 1).trans rfl
            have hcz32_2 : w27.cell? ⟨gb681, 2, none⟩ = some (.int .i64 t678) := (blk_cell BK681.out 2).trans rfl
            have hfz32_0 := blk_frozen BK681.out 0
            have hfz32_1 := blk_frozen BK681.out 1
            have hfz32_2 := blk_frozen BK681.out 2
            go_wp2
            go_meet
            case rel => exact ⟨_, (true), (by first | rfl | (simp; done) | (simp [*]; done)), H', ⟨by have := HJ6.out; first | omega | exact Nat.le_refl _⟩, ⟨by (with_reducible repeat (first | apply Kd.R_alloc | apply Kd.R_drewN | apply Kd.R_drew)); exact Kd.R_mono HO694.out (fun _ hk => hk.2)⟩, ⟨by (with_reducible repeat (first | apply Kd.R_alloc | apply Kd.R_drewN | apply Kd.R_drew)); exact Kd.R_mono HO698.out (fun _ hk => hk.2)⟩, ⟨by (with_reducible repeat (first | refine blk_drewN ?_ _ | refine blk_drew ?_ | refine blk_alloc ?_ _)); exact BK681.out⟩, ⟨by (with_reducible repeat (first | refine blk_drewN ?_ _ | refine blk_drew ?_ | refine blk_alloc ?_ _)); exact BK691.out⟩, ⟨by repeat (first | (with_reducible first | exact HB.out | apply below_alloc | apply pw_below_drewN | apply below_drew1 | refine below_set ?_ GE681.out | refine below_set ?_ GE691.out) | exact HB.out)⟩⟩
           ·
            rw [if_neg c30] at H
            have c30b0 : decide (t689 < (t676.size : Int)) = false := decide_eq_false c30
            clear c30
            have H' := Aside0.mk H
            clear H
            have hnb33 := NB681_691.out
            have hnc33 := NB691_681.out
            have hcz34_0 : w27.cell? ⟨gb681, 0, none⟩ = some (.string t676) := (blk_cell BK681.out 0).trans rfl
            have hcz34_1 : w27.cell? ⟨gb681, 1, none⟩ = some (.string t677) := (blk_cell BK681.out 1).trans rfl
            have hcz34_2 : w27.cell? ⟨gb681, 2, none⟩ = some (.int .i64 t678) := (blk_cell BK681.out 2).trans rfl
            have hfz34_0 := blk_frozen BK681.out 0
            have hfz34_1 := blk_frozen BK681.out 1
            have hfz34_2 := blk_frozen BK681.out 2
            obtain ⟨Ao35, co35, eo35⟩ := Kd.R_slice HO694.out
            subst eo35
            obtain ⟨Ao36, co36, eo36⟩ := Kd.R_slice HO698.out
            subst eo36
            go_wp2
            go_meet
            case rel => exact ⟨_, (decide ((t692.length : Int) > (t696.length : Int))), (by first | rfl | (simp; done) | (simp [*]; done)), H', ⟨by have := HJ6.out; first | omega | exact Nat.le_refl _⟩, ⟨by (with_reducible repeat (first | apply Kd.R_alloc | apply Kd.R_drewN | apply Kd.R_drew)); exact Kd.R_mono HO694.out (fun _ hk => hk.2)⟩, ⟨by (with_reducible repeat (first | apply Kd.R_alloc | apply Kd.R_drewN | apply Kd.R_drew)); exact Kd.R_mono HO698.out (fun _ hk => hk.2)⟩, ⟨by (with_reducible repeat (first | refine blk_drewN ?_ _ | refine blk_drew ?_ | refine blk_alloc ?_ _)); exact BK681.out⟩, ⟨by (with_reducible repeat (first | refine blk_drewN ?_ _ | refine blk_drew ?_ | refine blk_alloc ?_ _)); exact BK691.out⟩, ⟨by repeat (first | (with_reducible first | exact HB.out | apply below_alloc | apply pw_below_drewN | apply below_drew1 | refine below_set ?_ GE681.out | refine below_set ?_ GE691.out) | exact HB.out)⟩⟩
         ·
          replace c28 := Bool.eq_false_iff.mpr c28
          subst c28
          have H1 : (laws_FnCrashRecovery.j1 kj6 t682 t689 t692 t696 true t686 t687 t688) = some r := by rw [if_neg (show ¬ (false = true) by decide)] at H; exact H
          clear H
          have H := H1
          clear H1
          have H' := Aside0.mk H
          clear H
          go_wp2
          go_meet
          case rel => exact ⟨_, (true), (by first | rfl | (simp; done) | (simp [*]; done)), H', ⟨by have := HJ6.out; first | omega | exact Nat.le_refl _⟩, ⟨by (with_reducible repeat (first | apply Kd.R_alloc | apply Kd.R_drewN | apply Kd.R_drew)); exact Kd.R_mono HO694.out (fun _ hk => hk.2)⟩, ⟨by (with_reducible repeat (first | apply Kd.R_alloc | apply Kd.R_drewN | apply Kd.R_drew)); exact Kd.R_mono HO698.out (fun _ hk => hk.2)⟩, ⟨by (with_reducible repeat (first | refine blk_drewN ?_ _ | refine blk_drew ?_ | refine blk_alloc ?_ _)); exact BK681.out⟩, ⟨by (with_reducible repeat (first | refine blk_drewN ?_ _ | refine blk_drew ?_ | refine blk_alloc ?_ _)); exact BK691.out⟩, ⟨by repeat (first | (with_reducible first | exact HB.out | apply below_alloc | apply pw_below_drewN | apply below_drew1 | refine below_set ?_ GE681.out | refine below_set ?_ GE691.out) | exact HB.out)⟩⟩
       case rest =>
        as_aux_lemma =>
         clear HC20
         try clear c1
         try clear c2
         try clear p2
         try clear c3
         try clear c4
         try clear c12
         try clear c14
         try clear c14b0
         try clear c14b1
         try clear c15
         try clear c16
         try clear c18
         try clear c23
         try clear c24
         try clear c25
         try clear c28
         try clear c29
         try clear c29b0
         try clear c30
         try clear c30b0
         try clear c31
         try clear c33
         try clear c35
         try clear hcz10_0
         try clear hcz10_1
         try clear hcz10_2
         try clear hcz12_0
         try clear hcz12_1
         try clear hcz12_2
         try clear hcz24_0
         try clear hcz24_1
         try clear hcz24_2
         try clear hcz26_0
         try clear hcz26_1
         try clear hcz26_2
         try clear hcz32_0
         try clear hcz32_1
         try clear hcz32_2
         try clear hcz34_0
         try clear hcz34_1
         try clear hcz34_2
         try clear hfz10_0
         try clear hfz10_1
         try clear hfz10_2
         try clear hfz12_0
         try clear hfz12_1
         try clear hfz12_2
         try clear hfz24_0
         try clear hfz24_1
         try clear hfz24_2
         try clear hfz26_0
         try clear hfz26_1
         try clear hfz26_2
         try clear hfz32_0
         try clear hfz32_1
         try clear hfz32_2
         try clear hfz34_0
         try clear hfz34_1
         try clear hfz34_2
         try clear p2
         obtain ⟨kq, x89_19, rfl, HA, HJ19, HO_13, HO_15, BK681, BK691, HB⟩ := hcut
         cases kq with
         | zero => exact absurd HA.out (by simp [laws_FnCrashRecovery.j1])
         | succ kj19 =>
          have H := HA.out
          clear HA
          simp only [laws_FnCrashRecovery.j1] at H
          by_cases c37 : x89_19 = true
          ·
           subst c37
           have H1 : (some false) = some r := by rw [if_pos rfl] at H; exact H
           exact absurd ((Option.some.inj H1).trans hrt_) (by decide)
          ·
           replace c37 := Bool.eq_false_iff.mpr c37
           subst c37
           have H1 : (laws_FnCrashRecovery.l0 kj19 t682 t689 t692 t696 0 t686 t687 t688) = some r := by rw [if_neg (show ¬ (false = true) by decide)] at H; exact H
           clear H
           have H := H1
           clear H1
           have H' := Aside0.mk H
           clear H
           go_wp2
           go_loopg [17] kj19 (fun kq v17 w' => ∃ (x17_3 : Int), v17 = .int .i64 x17_3 ∧ Aside0 (laws_FnCrashRecovery.l0 kq t682 t689 t692 t696 x17_3 t686 t687 t688 = some r) ∧ Aside0 (kq ≤ kj19) ∧ Aside0 (Kd.R k27 27 w' w.heap.size (fun k_ => some k_ ≠ (v697 : Value).ownBlock) v693 t692) ∧ Aside0 (Kd.R k27 27 w' w.heap.size (fun k_ => some k_ ≠ (v693 : Value).ownBlock) v697 t696) ∧ Aside0 (w'.heap[gb681]? = some (.cells #[.string t676, .string t677, .int .i64 t678] 31 (0, 0))) ∧ Aside0 (w'.heap[gb691]? = some (.cells #[.string t686, .string t687, .int .i64 t688] 31 (0, 0))) ∧ Aside0 (Below w.heap.size w w'))
           case atStart => exact ⟨(0), (by first | rfl | (simp; done) | (simp [*]; done)), H', ⟨Nat.le_refl _⟩, ⟨by (with_reducible repeat (first | apply Kd.R_alloc | apply Kd.R_drewN | apply Kd.R_drew)); exact HO_13.out⟩, ⟨by (with_reducible repeat (first | apply Kd.R_alloc | apply Kd.R_drewN | apply Kd.R_drew)); exact HO_15.out⟩, ⟨by (with_reducible repeat (first | refine blk_drewN ?_ _ | refine blk_drew ?_ | refine blk_alloc ?_ _)); exact BK681.out⟩, ⟨by (with_reducible repeat (first | refine blk_drewN ?_ _ | refine blk_drew ?_ | refine blk_alloc ?_ _)); exact BK691.out⟩, ⟨by repeat (first | (with_reducible first | exact HB.out | apply below_alloc | apply pw_below_drewN | apply below_drew1 | refine below_set ?_ GE681.out | refine below_set ?_ GE691.out) | exact HB.out)⟩⟩
           case round =>
            as_aux_lemma =>
             clear H'
             try clear c1
             try clear c2
             try clear p2
             try clear c3
             try clear c4
             try clear c12
             try clear c14
             try clear c14b0
             try clear c14b1
             try clear c15
             try clear c16
             try clear c18
             try clear c23
             try clear c24
             try clear c25
             try clear c28
             try clear c29
             try clear c29b0
             try clear c30
             try clear c30b0
             try clear c31
             try clear c33
             try clear c35
             try clear c37
             try clear hcz10_0
             try clear hcz10_1
             try clear hcz10_2
             try clear hcz12_0
             try clear hcz12_1
             try clear hcz12_2
             try clear hcz24_0
             try clear hcz24_1
             try clear hcz24_2
             try clear hcz26_0
             try clear hcz26_1
             try clear hcz26_2
             try clear hcz32_0
             try clear hcz32_1
             try clear hcz32_2
             try clear hcz34_0
             try clear hcz34_1
             try clear hcz34_2
             try clear hfz10_0
             try clear hfz10_1
             try clear hfz10_2
             try clear hfz12_0
             try clear hfz12_1
             try clear hfz12_2
             try clear hfz24_0
             try clear hfz24_1
             try clear hfz24_2
             try clear hfz26_0
             try clear hfz26_1
             try clear hfz26_2
             try clear hfz32_0
             try clear hfz32_1
             try clear hfz32_2
             try clear hfz34_0
             try clear hfz34_1
             try clear hfz34_2
             try clear p2
             obtain ⟨x17_3, rfl, HA, HK3, HO_13, HO_15, BK681, BK691, HB⟩ := hrel
             cases gk with
             | zero => exact absurd HA.out (by simp [laws_FnCrashRecovery.l0])
             | succ k3 =>
              have H := HA.out
              clear HA
              simp only [laws_FnCrashRecovery.l0] at H
              by_cases c38 : x17_3 < (t692.length : Int)
              ·
               rw [if_pos c38] at H
               have c38b0 : decide (x17_3 < (t692.length : Int)) = true := decide_eq_true c38
               clear c38
               by_cases c39 : 0 ≤ x17_3
               ·
                rw [if_pos c39] at H
                have c39b0 : decide (0 ≤ x17_3) = true := decide_eq_true c39
                clear c39
                by_cases c40 : x17_3 < (t696.length : Int)
                ·
                 rw [if_pos c40] at H
                 have c40b0 : decide (x17_3 < (t696.length : Int)) = true := decide_eq_true c40
                 clear c40
                 by_cases c41 : (!((((rd_T27 t692 x17_3).f0).toList) == (((rd_T27 t696 x17_3).f0).toList)) || (!((((rd_T27 t692 x17_3).f1).toList) == (((rd_T27 t696 x17_3).f1).toList)))) = true
                 ·
                  rw [if_pos c41] at H
                  have c41b0 : (!((((rd_T27 t692 x17_3).f0).toList) == (((rd_T27 t696 x17_3).f0).toList)) || (!((((rd_T27 t692 x17_3).f1).toList) == (((rd_T27 t696 x17_3).f1).toList)))) = true := c41
                  clear c41
                  exact absurd ((Option.some.inj H).trans hrt_) (by decide)
                 ·
                  rw [if_neg c41] at H
                  have c41b0 : (!((((rd_T27 t692 x17_3).f0).toList) == (((rd_T27 t696 x17_3).f0).toList)) || (!((((rd_T27 t692 x17_3).f1).toList) == (((rd_T27 t696 x17_3).f1).toList)))) = false := by simpa using c41
                  clear c41
                  have H' := Aside0.mk H
                  clear H
                  obtain ⟨Ao45, co45, eo45⟩ := Kd.R_slice HO_13.out
                  subst eo45
                  try go_wp2
                  have n0_ := Aside0.mk (Kd.R_drew HO_13.out)
                  have n1_ := Aside0.mk (Kd.R_drew HO_15.out)
                  have n2_ := Aside0.mk (blk_drew BK681.out)
                  have n3_ := Aside0.mk (blk_drew BK691.out)
                  have n4_ := Aside0.mk (below_drew1 HB.out)
                  clear HO_13
                  clear HO_15
                  clear BK681
                  clear BK691
                  clear HB
                  have HO_13 := n0_
                  have HO_15 := n1_
                  have BK681 := n2_
                  have BK691 := n3_
                  have HB := n4_
                  clear n0_ n1_ n2_ n3_ n4_
                  have p700 : 0 ≤ (x17_3 : Int) := of_decide_eq_true (by first | (with_reducible assumption) | assumption)
                  have q700 : x17_3 < (t692.length : Int) := of_decide_eq_true (by first | (with_reducible assumption) | assumption)
                  obtain ⟨ad700, e700, hx700_0, hx700_1⟩ := at_T27 (Kd.R_reads' HO_13.out).2.2 x17_3 p700 q700
                  cases e700
                  replace p700 := eq_true p700
                  replace q700 := eq_true q700
                  obtain ⟨Ao47, co47, eo47⟩ := Kd.R_slice HO_15.out
                  (first | subst eo47 | (injection eo47 with f1_ f2_ f3_; have f4_ := f1_.symm; have f5_ := f3_.symm; clear f1_ f2_ f3_; subst f4_; subst f5_))
                  have p701 : 0 ≤ (x17_3 : Int) := of_decide_eq_true (by first | (with_reducible assumption) | assumption)
                  have q701 : x17_3 < (t696.length : Int) := of_decide_eq_true (by first | (with_reducible assumption) | assumption)
                  obtain ⟨ad701, e701, hx701_0, hx701_1⟩ := at_T27 (Kd.R_reads' HO_15.out).2.2 x17_3 p701 q701
                  cases e701
                  replace p701 := eq_true p701
                  replace q701 := eq_true q701
                  refine start_ (n := 9) (S := fun w' => w'.cell? (ad700.add ((x17_3).toNat * 2)) = some (.string ((rd_T27 t692 x17_3).f0)) ∧ w'.cell? ⟨(ad700.add ((x17_3).toNat * 2)).block, (ad700.add ((x17_3).toNat * 2)).off + 1, none⟩ = some (.string ((rd_T27 t692 x17_3).f1)) ∧ w'.cell? (ad701.add ((x17_3).toNat * 2)) = some (.string ((rd_T27 t696 x17_3).f0)) ∧ w'.cell? ⟨(ad701.add ((x17_3).toNat * 2)).block, (ad701.add ((x17_3).toNat * 2)).off + 1, none⟩ = some (.string ((rd_T27 t696 x17_3).f1))) (ds := []) #[false, false, false, false, false, false, false, false, false] (by kernel_rfl) rfl rfl ⟨hx700_0, hx700_1, hx701_0, hx701_1⟩ (fun hHeld => ?_); refine with_tabW laws_FnCrashRecovery.tab18 laws_FnCrashRecovery.bits18 (fun HT_ HW_ => ?_)
                  generalize wr.drew = w46 at HO_13 HO_15 BK681 BK691 HB hx700_0 hx700_1 hx701_0 hx701_1 hHeld ⊢
                  refine pure_ (i := 0) (N := some 96) (v := ?_) (a' := ?_) #[true, false, false, false, false, false, false, false, false] rfl rfl (any_of HT_.out (by kernel_rfl)) (fun _ _ _ h => h) (Or.inl ⟨by rfl, ?_⟩) ?_ ?_
                  rotate_left
                  ·
                   intro w'
                   go_simp
                   with_reducible rfl
                  rotate_left
                  ·
                   simp only [Act.put, List.setIfInBounds_toArray, List.set_cons_zero, List.set_cons_succ, i64_w, i32_w]
                   rfl
                  refine pure_ (i := 1) (N := some 97) (v := ?_) (a' := ?_) #[true, true, false, false, false, false, false, false, false] rfl rfl (any_of HT_.out (by kernel_rfl)) (fun _ _ _ h => h) (Or.inl ⟨by rfl, ?_⟩) ?_ ?_
                  rotate_left
                  ·
                   intro w'
                   go_simp
                   with_reducible rfl
                  rotate_left
                  ·
                   simp only [Act.put, List.setIfInBounds_toArray, List.set_cons_zero, List.set_cons_succ, i64_w, i32_w]
                   rfl
                  refine pure_ (i := 2) (N := some 98) (v := ?_) (a' := ?_) #[true, true, true, false, false, false, false, false, false] rfl rfl (any_of HT_.out (by kernel_rfl)) (fun _ _ _ h => h) (Or.inl ⟨by rfl, ?_⟩) ?_ ?_
                  rotate_left
                  ·
                   intro w'
                   go_simp
                   with_reducible rfl
                  rotate_left
                  ·
                   simp only [Act.put, List.setIfInBounds_toArray, List.set_cons_zero, List.set_cons_succ, i64_w, i32_w]
                   rfl
                  refine pure_ (i := 4) (N := some 100) (v := ?_) (a' := ?_) #[true, true, true, false, true, false, false, false, false] rfl rfl (any_of HT_.out (by kernel_rfl)) (fun _ _ _ h => h) (Or.inl ⟨by rfl, ?_⟩) ?_ ?_
                  rotate_left
                  ·
                   intro w'
                   go_simp
                   with_reducible rfl
                  rotate_left
                  ·
                   simp only [Act.put, List.setIfInBounds_toArray, List.set_cons_zero, List.set_cons_succ, i64_w, i32_w]
                   rfl
                  refine pure_ (i := 5) (N := some 101) (v := ?_) (a' := ?_) #[true, true, true, false, true, true, false, false, false] rfl rfl (any_of HT_.out (by kernel_rfl)) (fun _ _ _ h => h) (Or.inl ⟨by rfl, ?_⟩) ?_ ?_
                  rotate_left
                  ·
                   intro w'
                   go_simp
                   with_reducible rfl
                  rotate_left
                  ·
                   simp only [Act.put, List.setIfInBounds_toArray, List.set_cons_zero, List.set_cons_succ, i64_w, i32_w]
                   rfl
                  refine pure_ (i := 6) (N := some 102) (v := ?_) (a' := ?_) #[true, true, true, false, true, true, true, false, false] rfl rfl (any_of HT_.out (by kernel_rfl)) (fun _ _ _ h => h) (Or.inl ⟨by rfl, ?_⟩) ?_ ?_
                  rotate_left
                  ·
                   intro w'
                   go_simp
                   with_reducible rfl
                  rotate_left
                  ·
                   simp only [Act.put, List.setIfInBounds_toArray, List.set_cons_zero, List.set_cons_succ, i64_w, i32_w]
                   rfl
                  refine take_ (i := 3) (N := some 99) (v := ?_) (a' := ?_) #[true, true, true, true, true, true, true, false, false] rfl rfl (take_ofW HT_.out HW_.out (by kernel_rfl)) (fun _ _ _ h => h) (Or.inl ⟨by rfl, ?_⟩) hHeld ?_ ?_
                  rotate_left
                  ·
                   rintro w' ⟨s0, s1, s2, s3⟩
                   go_simp
                   with_reducible rfl
                  rotate_left
                  ·
                   simp only [Act.put, List.setIfInBounds_toArray, List.set_cons_zero, List.set_cons_succ, i64_w, i32_w]
                   rfl
                  refine take_ (i := 7) (N := some 103) (v := ?_) (a' := ?_) #[true, true, true, true, true, true, true, true, false] rfl rfl (take_ofW HT_.out HW_.out (by kernel_rfl)) (fun _ _ _ h => h) (Or.inl ⟨by rfl, ?_⟩) hHeld ?_ ?_
                  rotate_left
                  ·
                   rintro w' ⟨s0, s1, s2, s3⟩
                   go_simp
                   with_reducible rfl
                  rotate_left
                  ·
                   simp only [Act.put, List.setIfInBounds_toArray, List.set_cons_zero, List.set_cons_succ, i64_w, i32_w]
                   rfl
                  refine pure_ (i := 8) (N := some 104) (v := ?_) (a' := ?_) #[true, true, true, true, true, true, true, true, true] rfl rfl (any_of HT_.out (by kernel_rfl)) (fun _ _ _ h => h) (Or.inl ⟨by rfl, ?_⟩) ?_ ?_
                  rotate_left
                  ·
                   intro w'
                   go_simp
                   with_reducible rfl
                  rotate_left
                  ·
                   simp only [Act.put, List.setIfInBounds_toArray, List.set_cons_zero, List.set_cons_succ, i64_w, i32_w]
                   rfl
                  refine done_ (done_of HT_.out (by kernel_rfl)) ?_
                  try go_wp2
                  go_roundg k3
                  case measure => have := HJ6.out; have := HJ19.out; have := HK3.out; omega
                  case rel => exact ⟨(wrap64 (x17_3 + 1)), (by first | rfl | (simp; done) | (simp [*]; done)), H', ⟨by have := HJ6.out; have := HJ19.out; have := HK3.out; omega⟩, ⟨by (with_reducible repeat (first | apply Kd.R_alloc | apply Kd.R_drewN | apply Kd.R_drew)); exact HO_13.out⟩, ⟨by (with_reducible repeat (first | apply Kd.R_alloc | apply Kd.R_drewN | apply Kd.R_drew)); exact HO_15.out⟩, ⟨by (with_reducible repeat (first | refine blk_drewN ?_ _ | refine blk_drew ?_ | refine blk_alloc ?_ _)); exact BK681.out⟩, ⟨by (with_reducible repeat (first | refine blk_drewN ?_ _ | refine blk_drew ?_ | refine blk_alloc ?_ _)); exact BK691.out⟩, ⟨by repeat (first | (with_reducible first | exact HB.out | apply below_alloc | apply pw_below_drewN | apply below_drew1 | refine below_set ?_ GE681.out | refine below_set ?_ GE691.out) | exact HB.out)⟩⟩
                ·
                 rw [if_neg c40] at H
                 exact absurd H (by simp)
               ·
                rw [if_neg c39] at H
                exact absurd H (by simp)
              ·
               rw [if_neg c38] at H
               have c38b0 : decide (x17_3 < (t692.length : Int)) = false := decide_eq_false c38
               clear c38
               replace H := Option.bind_eq_some_iff.mp H
               obtain ⟨t702, A480, H⟩ := H
               replace H : (if t702 = true then (if 0 ≤ t689 then (if t689 ≤ (t682.size : Int) then (some (t686.toList == (t682.extract 0 (t689 : Int).toNat).toList)) else (none)) else (none)) else (some false)) = some r := H
               have A48 := Aside0.mk A480
               clear A480
               by_cases c49 : t702 = true
               ·
                subst c49
                have H1 : (if 0 ≤ t689 then (if t689 ≤ (t682.size : Int) then (some (t686.toList == (t682.extract 0 (t689 : Int).toNat).toList)) else (none)) else (none)) = some r := by rw [if_pos rfl] at H; exact H
                clear H
                have H := H1
                clear H1
                by_cases c50 : 0 ≤ t689
                ·
                 rw [if_pos c50] at H
                 have c50b0 := eq_true c50
                 have c50b1 : decide (0 ≤ t689) = true := decide_eq_true c50
                 clear c50
                 by_cases c51 : t689 ≤ (t682.size : Int)
                 ·
                  rw [if_pos c51] at H
                  have c51b0 := eq_true c51
                  have c51b1 : decide (t689 ≤ (t682.size : Int)) = true := decide_eq_true c51
                  clear c51
                  obtain rfl := Option.some.inj H
                  obtain ⟨Ao52, co52, eo52⟩ := Kd.R_slice HO_13.out
                  subst eo52
                  try go_wp2
                  have n0_ := Aside0.mk (Kd.R_drew HO_13.out)
                  have n1_ := Aside0.mk (Kd.R_drew HO_15.out)
                  have n2_ := Aside0.mk (blk_drew BK681.out)
                  have n3_ := Aside0.mk (blk_drew BK691.out)
                  have n4_ := Aside0.mk (below_drew1 HB.out)
                  clear HO_13
                  clear HO_15
                  clear BK681
                  clear BK691
                  clear HB
                  have HO_13 := n0_
                  have HO_15 := n1_
                  have BK681 := n2_
                  have BK691 := n3_
                  have HB := n4_
                  clear n0_ n1_ n2_ n3_ n4_
                  refine start_ (n := 11) (S := fun w' => w'.cell? ⟨gb691, 0, none⟩ = some (.string t686) ∧ w'.cell? ⟨gb691, 1, none⟩ = some (.string t687) ∧ w'.cell? ⟨gb691, 2, none⟩ = some (.int .i64 t688)) (ds := []) #[false, false, false, false, false, false, false, false, false, false, false] (by kernel_rfl) rfl rfl ⟨(blk_cell BK691.out 0).trans rfl, (blk_cell BK691.out 1).trans rfl, (blk_cell BK691.out 2).trans rfl⟩ (fun hHeld => ?_); refine with_tabW laws_FnCrashRecovery.tab20 laws_FnCrashRecovery.bits20 (fun HT_ HW_ => ?_)
                  generalize wr.drew = w53 at HO_13 HO_15 BK681 BK691 HB hHeld ⊢
                  refine take_ (i := 0) (N := some 105) (v := ?_) (a' := ?_) #[true, false, false, false, false, false, false, false, false, false, false] rfl rfl (take_ofW HT_.out HW_.out (by kernel_rfl)) (fun _ _ _ h => h) (Or.inl ⟨by rfl, ?_⟩) hHeld ?_ ?_
                  rotate_left
                  ·
                   rintro w' ⟨s0, s1, s2⟩
                   go_simp
                   with_reducible rfl
                  rotate_left
                  ·
                   simp only [Act.put, List.setIfInBounds_toArray, List.set_cons_zero, List.set_cons_succ, i64_w, i32_w]
                   rfl
                  refine one_ (i := 1) (N := some 106) #[true, true, false, false, false, false, false, false, false, false, false] rfl rfl (one_of HT_.out (by kernel_rfl)) (by decide) (fun K hK => ?_)
                  refine goes_ Tryd.func23 (by kernel_rfl) rfl #[.agg #[.string t686, .string t687, .int .i64 t688]] (by rfl) rfl rfl (by (try simp only [List.map_toArray, List.map_cons, List.map_nil]); first | done | rfl | (simp only [List.length_drop, List.length_take]; rfl)) ?_
                  with_reducible refine (impl_IsValidLog.calls k3 t686 t687 t688 true _ A48.out ?sideG).mono ?_
                  case sideG => exact (gw_below HG.out (by repeat (first | (with_reducible first | exact HB.out | apply below_alloc | apply pw_below_drewN | apply below_drew1 | refine below_set ?_ GE681.out | refine below_set ?_ GE691.out) | exact HB.out)))
                  rintro e w54 ⟨rfl, hb⟩
                  refine ⟨_, rfl, ?_⟩
                  have n0_ := Aside0.mk (Kd.R_below (by (with_reducible repeat (first | apply Kd.R_alloc | apply Kd.R_drewN | apply Kd.R_drew)); exact HO_13.out) hb)
                  have n1_ := Aside0.mk (Kd.R_below (by (with_reducible repeat (first | apply Kd.R_alloc | apply Kd.R_drewN | apply Kd.R_drew)); exact HO_15.out) hb)
                  have n2_ := Aside0.mk (blk_below (g := gb681) (o := .cells #[.string t676, .string t677, .int .i64 t678] 31 (0, 0)) BK681.out hb)
                  have n3_ := Aside0.mk (blk_below (g := gb691) (o := .cells #[.string t686, .string t687, .int .i64 t688] 31 (0, 0)) BK691.out hb)
                  have n4_ := Aside0.mk (below_step (by repeat (first | (with_reducible first | exact HB.out | apply below_alloc | apply pw_below_drewN | apply below_drew1 | refine below_set ?_ GE681.out | refine below_set ?_ GE691.out) | exact HB.out)) hb)
                  clear HO_13
                  clear HO_15
                  clear BK681
                  clear BK691
                  clear HB
                  have HO_13 := n0_
                  have HO_15 := n1_
                  have BK681 := n2_
                  have BK691 := n3_
                  have HB := n4_
                  clear n0_ n1_ n2_ n3_ n4_
                  (try clear hb)
                  (try clear hb2)
                  (try clear hk)
                  (try clear hi)
                  refine hK.out _ _ ⟨(blk_cell BK691.out 0).trans rfl, (blk_cell BK691.out 1).trans rfl, (blk_cell BK691.out 2).trans rfl⟩ (fun hHeld => ?_)
                  clear hK K
                  refine norm_ (a' := ?_) ?_ ?_
                  rotate_left
                  ·
                   show Act.put _ (some 106) _ = _
                   simp only [Act.put, List.setIfInBounds_toArray, List.set_cons_zero, List.set_cons_succ, i64_w, i32_w]
                   rfl
                  refine pure_ (i := 2) (N := some 107) (v := ?_) (a' := ?_) #[true, true, true, false, false, false, false, false, false, false, false] rfl rfl (any_of HT_.out (by kernel_rfl)) (fun _ _ _ h => h) (Or.inl ⟨by rfl, ?_⟩) ?_ ?_
                  rotate_left
                  ·
                   intro w'
                   go_simp
                   with_reducible rfl
                  rotate_left
                  ·
                   simp only [Act.put, List.setIfInBounds_toArray, List.set_cons_zero, List.set_cons_succ, i64_w, i32_w]
                   rfl
                  refine pure_ (i := 3) (N := some 108) (v := ?_) (a' := ?_) #[true, true, true, true, false, false, false, false, false, false, false] rfl rfl (any_of HT_.out (by kernel_rfl)) (fun _ _ _ h => h) (Or.inl ⟨by rfl, ?_⟩) ?_ ?_
                  rotate_left
                  ·
                   intro w'
                   go_simp
                   with_reducible rfl
                  rotate_left
                  ·
                   simp only [Act.put, List.setIfInBounds_toArray, List.set_cons_zero, List.set_cons_succ, i64_w, i32_w]
                   rfl
                  refine pure_ (i := 5) (N := some 110) (v := ?_) (a' := ?_) #[true, true, true, true, false, true, false, false, false, false, false] rfl rfl (any_of HT_.out (by kernel_rfl)) (fun _ _ _ h => h) (Or.inl ⟨by rfl, ?_⟩) ?_ ?_
                  rotate_left
                  ·
                   intro w'
                   go_simp
                   with_reducible rfl
                  rotate_left
                  ·
                   simp only [Act.put, List.setIfInBounds_toArray, List.set_cons_zero, List.set_cons_succ, i64_w, i32_w]
                   rfl
                  refine pure_ (i := 6) (N := some 111) (v := ?_) (a' := ?_) #[true, true, true, true, false, true, true, false, false, false, false] rfl rfl (any_of HT_.out (by kernel_rfl)) (fun _ _ _ h => h) (Or.inl ⟨by rfl, ?_⟩) ?_ ?_
                  rotate_left
                  ·
                   intro w'
                   go_simp
                   with_reducible rfl
                  rotate_left
                  ·
                   simp only [Act.put, List.setIfInBounds_toArray, List.set_cons_zero, List.set_cons_succ, i64_w, i32_w]
                   rfl
                  refine pure_ (i := 7) (N := some 112) (v := ?_) (a' := ?_) #[true, true, true, true, false, true, true, true, false, false, false] rfl rfl (any_of HT_.out (by kernel_rfl)) (fun _ _ _ h => h) (Or.inl ⟨by rfl, ?_⟩) ?_ ?_
                  rotate_left
                  ·
                   intro w'
                   go_simp
                   with_reducible rfl
                  rotate_left
                  ·
                   simp only [Act.put, List.setIfInBounds_toArray, List.set_cons_zero, List.set_cons_succ, i64_w, i32_w]
                   rfl
                  refine take_ (i := 4) (N := some 109) (v := ?_) (a' := ?_) #[true, true, true, true, true, true, true, true, false, false, false] rfl rfl (take_ofW HT_.out HW_.out (by kernel_rfl)) (fun _ _ _ h => h) (Or.inl ⟨by rfl, ?_⟩) hHeld ?_ ?_
                  rotate_left
                  ·
                   rintro w' ⟨s0, s1, s2⟩
                   go_simp
                   with_reducible rfl
                  rotate_left
                  ·
                   simp only [Act.put, List.setIfInBounds_toArray, List.set_cons_zero, List.set_cons_succ, i64_w, i32_w]
                   rfl
                  refine pure_ (i := 8) (N := some 113) (v := ?_) (a' := ?_) #[true, true, true, true, true, true, true, true, true, false, false] rfl rfl (any_of HT_.out (by kernel_rfl)) (fun _ _ _ h => h) (Or.inl ⟨by rfl, ?_⟩) ?_ ?_
                  rotate_left
                  ·
                   intro w'
                   go_simp
                   with_reducible rfl
                  rotate_left
                  ·
                   simp only [Act.put, List.setIfInBounds_toArray, List.set_cons_zero, List.set_cons_succ, i64_w, i32_w]
                   rfl
                  refine pure_ (i := 9) (N := some 114) (v := ?_) (a' := ?_) #[true, true, true, true, true, true, true, true, true, true, false] rfl rfl (any_of HT_.out (by kernel_rfl)) (fun _ _ _ h => h) (Or.inl ⟨by rfl, ?_⟩) ?_ ?_
                  rotate_left
                  ·
                   intro w'
                   go_simp
                   with_reducible rfl
                  rotate_left
                  ·
                   simp only [Act.put, List.setIfInBounds_toArray, List.set_cons_zero, List.set_cons_succ, i64_w, i32_w]
                   rfl
                  refine pure_ (i := 10) (N := some 2) (v := ?_) (a' := ?_) #[true, true, true, true, true, true, true, true, true, true, true] rfl rfl (any_of HT_.out (by kernel_rfl)) (fun _ _ _ h => h) (Or.inl ⟨by rfl, ?_⟩) ?_ ?_
                  rotate_left
                  ·
                   intro w'
                   go_simp
                   with_reducible rfl
                  rotate_left
                  ·
                   simp only [Act.put, List.setIfInBounds_toArray, List.set_cons_zero, List.set_cons_succ, i64_w, i32_w]
                   rfl
                  refine done_ (done_of HT_.out (by kernel_rfl)) ?_
                  try go_wp2
                  go_ret
                  exact ⟨by first | rfl | (simp [errW_none, errW_some] <;> rfl) | (simp [*, errW_none, errW_some] <;> rfl), by repeat (first | (with_reducible first | exact HB.out | apply below_alloc | apply pw_below_drewN | apply below_drew1 | refine below_set ?_ GE681.out | refine below_set ?_ GE691.out) | exact HB.out)⟩
                 ·
                  rw [if_neg c51] at H
                  exact absurd H (by simp)
                ·
                 rw [if_neg c50] at H
                 exact absurd H (by simp)
               ·
                replace c49 := Bool.eq_false_iff.mpr c49
                subst c49
                have H1 : (some false) = some r := by rw [if_neg (show ¬ (false = true) by decide)] at H; exact H
                exact absurd ((Option.some.inj H1).trans hrt_) (by decide)
      ·
       replace c16 := Bool.eq_false_iff.mpr c16
       subst c16
       have H1 : (some (t682.toList == ([] : List UInt8))) = some r := by rw [if_neg (show ¬ (false = true) by decide)] at H; exact H
       clear H
       have H := H1
       clear H1
       obtain rfl := Option.some.inj H
       go_wp2
       go_ret
       exact ⟨by first | rfl | (simp [errW_none, errW_some] <;> rfl) | (simp [*, errW_none, errW_some] <;> rfl), by repeat (first | (with_reducible first | exact HB.out | apply below_alloc | apply pw_below_drewN | apply below_drew1 | refine below_set ?_ GE681.out) | exact HB.out)⟩

end Go.Proofs.YtdpopkpoogmboaaDoor.P
