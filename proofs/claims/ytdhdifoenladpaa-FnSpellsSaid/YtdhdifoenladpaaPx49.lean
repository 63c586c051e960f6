-- Made by pp.py of this session out of the kit's print and of contracts proved by hand; Lean checks it.
import Derived.Test.YtdhdifoenladpaaPx0
import Derived.Test.YtdhdifoenladpaaPx4
import Derived.Test.YtdhdifoenladpaaPx13
import Derived.Test.YtdhdifoenladpaaPx18
import Derived.Test.YtdhdifoenladpaaPx19
import Derived.Test.YtdhdifoenladpaaPx27
import Derived.Test.YtdhdifoenladpaaPx28
import Derived.Test.YtdhdifoenladpaaPx31
import Derived.Test.YtdhdifoenladpaaPx32
import Derived.Test.YtdhdifoenladpaaPx33
import Derived.Test.YtdhdifoenladpaaPx48
namespace Go.Proofs.Ytdhdifoenladpaa.P
open Go.RowKit Go.Proofs.YtdhdifoenladpaaW.PrintWords Go.Proofs.YtdhdifoenladpaaW.PrintLast Go.Proofs.YtdhdifoenladpaaW.PrintMore
attribute [local go_sem] max2_int min2_int max_two min_two max_three min_three max_four min_four   -- for this text's walks alone
set_option linter.unusedVariables false
set_option linter.unusedSimpArgs false

/-! ### laws_FnSpells: function 13 -/
mutual
def laws_FnSpells.j0 : Nat → List Int → List Int → Int → Int → Int → Bool → Bool → Option (Bool)
 | 0, _, _, _, _, _, _, _ => none
 | k + 1, x0, x3, x4, x5, x6, x7, x64 => if x64 = true then (some false) else (laws_FnSpells.l0 k x0 x3 x4 x6 x7 x5)
def laws_FnSpells.l0 : Nat → List Int → List Int → Int → Int → Bool → Int → Option (Bool)
 | 0, _, _, _, _, _, _ => none
 | k + 1, x0, x3, x4, x6, x7, x11 => if x7 = true then (laws_FnSpells.j2 k x0 x3 x4 x6 x7 x11 (decide (x11 ≤ x6))) else (laws_FnSpells.j2 k x0 x3 x4 x6 x7 x11 false)
def laws_FnSpells.j2 : Nat → List Int → List Int → Int → Int → Bool → Int → Bool → Option (Bool)
 | 0, _, _, _, _, _, _, _ => none
 | k + 1, x0, x3, x4, x6, x7, x11, x71 => if x71 = true then (if 0 ≤ x11 then (if x11 < (x3.length : Int) then (if (rd x3 x11) < x4 then (some false) else (laws_FnSpells.l0 k x0 x3 x4 x6 x7 (wrap64 (x11 + 1)))) else (none)) else (none)) else ((spec_DrawFillGaps.f k x0).bind fun t599 => ((impl_FillGaps.f k t599).bind fun bt602 => ((spec_FillGaps.f k t599).bind fun bt606 => (if (bt602.2 != bt606.2) = true then (laws_FnSpells.j3 k x0 t599 bt602.1 bt602.2 true) else ((laws_rInts.f k bt602.1 bt606.1).bind fun t610 => (laws_FnSpells.j3 k x0 t599 bt602.1 bt602.2 (!t610)))))))
def laws_FnSpells.j3 : Nat → List Int → List Int → List Int → Bool → Bool → Option (Bool)
 | 0, _, _, _, _, _ => none
 | k + 1, x0, x12, x13, x14, x100 => if x100 = true then (some false) else (if x14 = true then ((impl_FillGaps.f k x13).bind fun bt611 => (if bt611.2 = true then ((laws_rInts.f k bt611.1 x13).bind fun t615 => (if t615 = true then ((impl_IsValidSeries.f x13).bind fun t616 => (laws_FnSpells.j4 k x0 x12 x13 (!t616))) else (laws_FnSpells.j4 k x0 x12 x13 true))) else (laws_FnSpells.j4 k x0 x12 x13 true))) else (laws_FnSpells.j6 k x0))
def laws_FnSpells.j6 : Nat → List Int → Option (Bool)
 | 0, _ => none
 | k + 1, x0 => (spec_DrawTenDayMeans.f k x0).bind fun t620 => ((impl_TenDayMeans.f k t620).bind fun bt623 => ((spec_TenDayMeans.f k t620).bind fun bt627 => (if (bt623.2 != bt627.2) = true then (laws_FnSpells.j7 k x0 true) else ((laws_rInts.f k bt623.1 bt627.1).bind fun t631 => (if t631 = true then (if bt623.2 = true then (laws_FnSpells.j7 k x0 ((bt623.1.length : Int) != (wrap64 (Int.tdiv (wrap64 ((t620.length : Int) + 9)) 10)))) else (laws_FnSpells.j7 k x0 false)) else (laws_FnSpells.j7 k x0 true))))))
def laws_FnSpells.j7 : Nat → List Int → Bool → Option (Bool)
 | 0, _, _ => none
 | k + 1, x0, x174 => if x174 = true then (some false) else ((spec_DrawRecordDays.f k x0).bind fun t632 => ((impl_RecordDays.f t632).bind fun bt635 => ((spec_RecordDays.f k t632).bind fun bt639 => (if (bt635.2 != bt639.2) = true then (laws_FnSpells.j8 k t632 bt635.1 true) else ((laws_rInts.f k bt635.1 bt639.1).bind fun t643 => (laws_FnSpells.j8 k t632 bt635.1 (!t643)))))))
def laws_FnSpells.j8 : Nat → List Int → List Int → Bool → Option (Bool)
 | 0, _, _, _ => none
 | k + 1, x25, x26, x195 => if x195 = true then (some false) else (laws_FnSpells.l2 k x25 x26 1)
def laws_FnSpells.l2 : Nat → List Int → List Int → Int → Option (Bool)
 | 0, _, _, _ => none
 | k + 1, x25, x26, x30 => if x30 < (x26.length : Int) then (if 0 ≤ (wrap64 (x30 - 1)) then (if (wrap64 (x30 - 1)) < (x26.length : Int) then (if 0 ≤ (rd x26 (wrap64 (x30 - 1))) then (if (rd x26 (wrap64 (x30 - 1))) < (x25.length : Int) then (if 0 ≤ x30 then (if 0 ≤ (rd x26 x30) then (if (rd x26 x30) < (x25.length : Int) then (if (rd x25 (rd x26 (wrap64 (x30 - 1)))) ≥ (rd x25 (rd x26 x30)) then (some false) else (laws_FnSpells.l2 k x25 x26 (wrap64 (x30 + 1)))) else (none)) else (none)) else (none)) else (none)) else (none)) else (none)) else (none)) else (some true)
def laws_FnSpells.j4 : Nat → List Int → List Int → List Int → Bool → Option (Bool)
 | 0, _, _, _, _ => none
 | k + 1, x0, x12, x13, x119 => if x119 = true then (some false) else (laws_FnSpells.l1 k x0 x12 x13 0)
def laws_FnSpells.l1 : Nat → List Int → List Int → List Int → Int → Option (Bool)
 | 0, _, _, _, _ => none
 | k + 1, x0, x12, x13, x19 => if x19 < (x12.length : Int) then (if 0 ≤ x19 then (if (rd x12 x19) = (-9999) then (laws_FnSpells.l1 k x0 x12 x13 (wrap64 (x19 + 1))) else (if x19 < (x13.length : Int) then (if (rd x13 x19) = (rd x12 x19) then (laws_FnSpells.l1 k x0 x12 x13 (wrap64 (x19 + 1))) else (some false)) else (none))) else (none)) else (laws_FnSpells.j6 k x0)
end
def laws_FnSpells.f (k : Nat) (l0 : List Int) : Option (Bool) := (laws_rBig.f l0).bind fun t587 => (if t587 = true then (some true) else ((spec_DrawLongestSpell.f k l0).bind fun bt588 => ((impl_LongestSpell.f k bt588.1 bt588.2).bind fun bt592 => ((spec_LongestSpell.f k bt588.1 bt588.2).bind fun bt595 => (if bt592.1 = bt595.1 then (if bt592.2.1 = bt595.2.1 then (laws_FnSpells.j0 k l0 bt588.1 bt588.2 bt592.1 bt592.2.1 bt592.2.2 (bt592.2.2 != bt595.2.2)) else (laws_FnSpells.j0 k l0 bt588.1 bt588.2 bt592.1 bt592.2.1 bt592.2.2 true)) else (laws_FnSpells.j0 k l0 bt588.1 bt588.2 bt592.1 bt592.2.1 bt592.2.2 true))))))
set_option maxHeartbeats 8000000 in
set_option maxRecDepth 100000 in
theorem laws_FnSpells.calls (k : Nat) (A0 : Option Addr) (c0 : Nat) (l0 : List Int) (r : Bool) (w : World) (hr0 : Kd.C (Kd.int .u8) w A0 l0.length l0) (hc0 : l0.length ≤ c0) (h : laws_FnSpells.f k l0 = some r) (hrt_ : r = true) :
  Calls Try.prog 13 #[.slice A0 l0.length c0] w fun e w' => e = .returned (.bool r) ∧ Below w.heap.size w w' := by
 have HR0 := Aside0.mk hr0
 have HC0 := Aside0.mk hc0
 clear hr0 hc0
 have HB := Aside0.mk (Below.refl w.heap.size w)
 have H : ((laws_rBig.f l0).bind fun t587 => (if t587 = true then (some true) else ((spec_DrawLongestSpell.f k l0).bind fun bt588 => ((impl_LongestSpell.f k bt588.1 bt588.2).bind fun bt592 => ((spec_LongestSpell.f k bt588.1 bt588.2).bind fun bt595 => (if bt592.1 = bt595.1 then (if bt592.2.1 = bt595.2.1 then (laws_FnSpells.j0 k l0 bt588.1 bt588.2 bt592.1 bt592.2.1 bt592.2.2 (bt592.2.2 != bt595.2.2)) else (laws_FnSpells.j0 k l0 bt588.1 bt588.2 bt592.1 bt592.2.1 bt592.2.2 true)) else (laws_FnSpells.j0 k l0 bt588.1 bt588.2 bt592.1 bt592.2.1 bt592.2.2 true))))))) = some r := h
 clear h
 replace H := Option.bind_eq_some_iff.mp H
 obtain ⟨t587, A20, H⟩ := H
 replace H : (if t587 = true then (some true) else ((spec_DrawLongestSpell.f k l0).bind fun bt588 => ((impl_LongestSpell.f k bt588.1 bt588.2).bind fun bt592 => ((spec_LongestSpell.f k bt588.1 bt588.2).bind fun bt595 => (if bt592.1 = bt595.1 then (if bt592.2.1 = bt595.2.1 then (laws_FnSpells.j0 k l0 bt588.1 bt588.2 bt592.1 bt592.2.1 bt592.2.2 (bt592.2.2 != bt595.2.2)) else (laws_FnSpells.j0 k l0 bt588.1 bt588.2 bt592.1 bt592.2.1 bt592.2.2 true)) else (laws_FnSpells.j0 k l0 bt588.1 bt588.2 bt592.1 bt592.2.1 bt592.2.2 true)))))) = some r := H
 have A2 := Aside0.mk A20
 clear A20
 by_cases c3 : t587 = true
 ·
  subst c3
  have H1 : (some true) = some r := by rw [if_pos rfl] at H; exact H
  clear H
  have H := H1
  clear H1
  obtain rfl := Option.some.inj H
  go_enter Try.func13, Try.ntmps13
  go_wp2_with (first | (go_at_call 39; (with_reducible refine (laws_rBig.calls _ _ l0 true _ ?side1 ?side2 A2.out).mono ?_); (case side1 => repeat (first | exact HR0.out | (with_reducible refine Kd.C_alloc ?_ _) | (with_reducible refine Kd.C_drewN ?_ _) | (with_reducible refine Kd.C_drew ?_))); (case side2 => exact HC0.out); rintro e w' ⟨rfl, ⟨nd, rfl⟩⟩; (try first | exact ⟨rfl, _, World.drewN_drewN _ _ _⟩ | exact ⟨rfl, _, Eq.trans (World.drewN_drewN _ _ _) (congrArg (World.drewN _) (Nat.add_assoc _ _ _))⟩)))
  repeat (go_quiet (first | (go_at_call 39; (with_reducible refine (laws_rBig.calls _ _ l0 true _ ?side1 ?side2 A2.out).mono ?_); (case side1 => repeat (first | exact HR0.out | (with_reducible refine Kd.C_alloc ?_ _) | (with_reducible refine Kd.C_drewN ?_ _) | (with_reducible refine Kd.C_drew ?_))); (case side2 => exact HC0.out); rintro e w' ⟨rfl, ⟨nd, rfl⟩⟩; (try first | exact ⟨rfl, _, World.drewN_drewN _ _ _⟩ | exact ⟨rfl, _, Eq.trans (World.drewN_drewN _ _ _) (congrArg (World.drewN _) (Nat.add_assoc _ _ _))⟩))); try go_wp2_with (first | (go_at_call 39; (with_reducible refine (laws_rBig.calls _ _ l0 true _ ?side1 ?side2 A2.out).mono ?_); (case side1 => repeat (first | exact HR0.out | (with_reducible refine Kd.C_alloc ?_ _) | (with_reducible refine Kd.C_drewN ?_ _) | (with_reducible refine Kd.C_drew ?_))); (case side2 => exact HC0.out); rintro e w' ⟨rfl, ⟨nd, rfl⟩⟩; (try first | exact ⟨rfl, _, World.drewN_drewN _ _ _⟩ | exact ⟨rfl, _, Eq.trans (World.drewN_drewN _ _ _) (congrArg (World.drewN _) (Nat.add_assoc _ _ _))⟩))))
  go_ret
  exact ⟨by first | rfl | (simp [errW_none, errW_some] <;> rfl) | (simp [*, errW_none, errW_some] <;> rfl), by repeat (first | (with_reducible first | exact HB.out | apply below_alloc | apply pw_below_drewN | apply below_drew1) | exact HB.out)⟩
 ·
  replace c3 := Bool.eq_false_iff.mpr c3
  subst c3
  have H1 : ((spec_DrawLongestSpell.f k l0).bind fun bt588 => ((impl_LongestSpell.f k bt588.1 bt588.2).bind fun bt592 => ((spec_LongestSpell.f k bt588.1 bt588.2).bind fun bt595 => (if bt592.1 = bt595.1 then (if bt592.2.1 = bt595.2.1 then (laws_FnSpells.j0 k l0 bt588.1 bt588.2 bt592.1 bt592.2.1 bt592.2.2 (bt592.2.2 != bt595.2.2)) else (laws_FnSpells.j0 k l0 bt588.1 bt588.2 bt592.1 bt592.2.1 bt592.2.2 true)) else (laws_FnSpells.j0 k l0 bt588.1 bt588.2 bt592.1 bt592.2.1 bt592.2.2 true))))) = some r := by rw [if_neg (show ¬ (false = true) by decide)] at H; exact H
  clear H
  have H := H1
  clear H1
  replace H := Option.bind_eq_some_iff.mp H
  obtain ⟨⟨t588, t589⟩, A40, H⟩ := H
  replace H : ((impl_LongestSpell.f k t588 t589).bind fun bt592 => ((spec_LongestSpell.f k t588 t589).bind fun bt595 => (if bt592.1 = bt595.1 then (if bt592.2.1 = bt595.2.1 then (laws_FnSpells.j0 k l0 t588 t589 bt592.1 bt592.2.1 bt592.2.2 (bt592.2.2 != bt595.2.2)) else (laws_FnSpells.j0 k l0 t588 t589 bt592.1 bt592.2.1 bt592.2.2 true)) else (laws_FnSpells.j0 k l0 t588 t589 bt592.1 bt592.2.1 bt592.2.2 true)))) = some r := H
  have A4 := Aside0.mk A40
  clear A40
  replace H := Option.bind_eq_some_iff.mp H
  obtain ⟨⟨t592, t593, t594⟩, A50, H⟩ := H
  replace H : ((spec_LongestSpell.f k t588 t589).bind fun bt595 => (if t592 = bt595.1 then (if t593 = bt595.2.1 then (laws_FnSpells.j0 k l0 t588 t589 t592 t593 t594 (t594 != bt595.2.2)) else (laws_FnSpells.j0 k l0 t588 t589 t592 t593 t594 true)) else (laws_FnSpells.j0 k l0 t588 t589 t592 t593 t594 true))) = some r := H
  have A5 := Aside0.mk A50
  clear A50
  replace H := Option.bind_eq_some_iff.mp H
  obtain ⟨⟨t595, t596, t597⟩, A60, H⟩ := H
  replace H : (if t592 = t595 then (if t593 = t596 then (laws_FnSpells.j0 k l0 t588 t589 t592 t593 t594 (t594 != t597)) else (laws_FnSpells.j0 k l0 t588 t589 t592 t593 t594 true)) else (laws_FnSpells.j0 k l0 t588 t589 t592 t593 t594 true)) = some r := H
  have A6 := Aside0.mk A60
  clear A60
  have HC7 := Aside0.mk H
  clear H
  go_enter Try.func13, Try.ntmps13
  go_upto_region 6 with (first | (go_at_call 39; (with_reducible refine (laws_rBig.calls _ _ l0 false _ ?side1 ?side2 A2.out).mono ?_); (case side1 => repeat (first | exact HR0.out | (with_reducible refine Kd.C_alloc ?_ _) | (with_reducible refine Kd.C_drewN ?_ _) | (with_reducible refine Kd.C_drew ?_))); (case side2 => exact HC0.out); rintro e w' ⟨rfl, ⟨nd, rfl⟩⟩; (try first | exact ⟨rfl, _, World.drewN_drewN _ _ _⟩ | exact ⟨rfl, _, Eq.trans (World.drewN_drewN _ _ _) (congrArg (World.drewN _) (Nat.add_assoc _ _ _))⟩)) | (go_at_call 40; (with_reducible refine (spec_DrawLongestSpell.calls k _ _ l0 t588 t589 _ ?side1 ?side2 A4.out).mono ?_); (case side1 => repeat (first | exact HR0.out | (with_reducible refine Kd.C_alloc ?_ _) | (with_reducible refine Kd.C_drewN ?_ _) | (with_reducible refine Kd.C_drew ?_))); (case side2 => exact HC0.out); rintro e w8 ⟨v590, rfl, ho0, hb⟩; have n0_ := Aside0.mk (Kd.R_lower ho0 (below_size (by repeat (first | (with_reducible first | exact HB.out | apply below_alloc | apply pw_below_drewN | apply below_drew1) | exact HB.out)))); have n1_ := Aside0.mk (below_step (by repeat (first | (with_reducible first | exact HB.out | apply below_alloc | apply pw_below_drewN | apply below_drew1) | exact HB.out)) hb); clear HB; have HO591 := n0_; have HB := n1_; clear n0_ n1_; (try clear hb); (try clear hb2); (try clear hk); (try clear hi); (try clear ho0); obtain ⟨Ao9, co9, eo9⟩ := Kd.R_slice HO591.out; subst eo9) | (go_at_call 20; (with_reducible refine (impl_LongestSpell.calls k _ _ t588 t589 t592 t593 t594 _ ?side1 ?side2 A5.out).mono ?_); (case side1 => repeat (first | exact (Kd.R_reads' HO591.out).2.2 | (with_reducible refine Kd.C_alloc ?_ _) | (with_reducible refine Kd.C_drewN ?_ _) | (with_reducible refine Kd.C_drew ?_))); (case side2 => exact (Kd.R_reads' HO591.out).2.1); rintro e w' ⟨rfl, ⟨nd, rfl⟩⟩; (try first | exact ⟨rfl, _, World.drewN_drewN _ _ _⟩ | exact ⟨rfl, _, Eq.trans (World.drewN_drewN _ _ _) (congrArg (World.drewN _) (Nat.add_assoc _ _ _))⟩)) | (go_at_call 19; (with_reducible refine (spec_LongestSpell.calls k _ _ t588 t589 t595 t596 t597 _ ?side1 ?side2 A6.out).mono ?_); (case side1 => repeat (first | exact (Kd.R_reads' HO591.out).2.2 | (with_reducible refine Kd.C_alloc ?_ _) | (with_reducible refine Kd.C_drewN ?_ _) | (with_reducible refine Kd.C_drew ?_))); (case side2 => exact (Kd.R_reads' HO591.out).2.1); rintro e w' ⟨rfl, ⟨nd, rfl⟩⟩; (try first | exact ⟨rfl, _, World.drewN_drewN _ _ _⟩ | exact ⟨rfl, _, Eq.trans (World.drewN_drewN _ _ _) (congrArg (World.drewN _) (Nat.add_assoc _ _ _))⟩)))
  repeat (go_quiet (first | (go_at_call 39; (with_reducible refine (laws_rBig.calls _ _ l0 false _ ?side1 ?side2 A2.out).mono ?_); (case side1 => repeat (first | exact HR0.out | (with_reducible refine Kd.C_alloc ?_ _) | (with_reducible refine Kd.C_drewN ?_ _) | (with_reducible refine Kd.C_drew ?_))); (case side2 => exact HC0.out); rintro e w' ⟨rfl, ⟨nd, rfl⟩⟩; (try first | exact ⟨rfl, _, World.drewN_drewN _ _ _⟩ | exact ⟨rfl, _, Eq.trans (World.drewN_drewN _ _ _) (congrArg (World.drewN _) (Nat.add_assoc _ _ _))⟩)) | (go_at_call 40; (with_reducible refine (spec_DrawLongestSpell.calls k _ _ l0 t588 t589 _ ?side1 ?side2 A4.out).mono ?_); (case side1 => repeat (first | exact HR0.out | (with_reducible refine Kd.C_alloc ?_ _) | (with_reducible refine Kd.C_drewN ?_ _) | (with_reducible refine Kd.C_drew ?_))); (case side2 => exact HC0.out); rintro e w8 ⟨v590, rfl, ho0, hb⟩; have n0_ := Aside0.mk (Kd.R_lower ho0 (below_size (by repeat (first | (with_reducible first | exact HB.out | apply below_alloc | apply pw_below_drewN | apply below_drew1) | exact HB.out)))); have n1_ := Aside0.mk (below_step (by repeat (first | (with_reducible first | exact HB.out | apply below_alloc | apply pw_below_drewN | apply below_drew1) | exact HB.out)) hb); clear HB; have HO591 := n0_; have HB := n1_; clear n0_ n1_; (try clear hb); (try clear hb2); (try clear hk); (try clear hi); (try clear ho0); obtain ⟨Ao9, co9, eo9⟩ := Kd.R_slice HO591.out; subst eo9) | (go_at_call 20; (with_reducible refine (impl_LongestSpell.calls k _ _ t588 t589 t592 t593 t594 _ ?side1 ?side2 A5.out).mono ?_); (case side1 => repeat (first | exact (Kd.R_reads' HO591.out).2.2 | (with_reducible refine Kd.C_alloc ?_ _) | (with_reducible refine Kd.C_drewN ?_ _) | (with_reducible refine Kd.C_drew ?_))); (case side2 => exact (Kd.R_reads' HO591.out).2.1); rintro e w' ⟨rfl, ⟨nd, rfl⟩⟩; (try first | exact ⟨rfl, _, World.drewN_drewN _ _ _⟩ | exact ⟨rfl, _, Eq.trans (World.drewN_drewN _ _ _) (congrArg (World.drewN _) (Nat.add_assoc _ _ _))⟩)) | (go_at_call 19; (with_reducible refine (spec_LongestSpell.calls k _ _ t588 t589 t595 t596 t597 _ ?side1 ?side2 A6.out).mono ?_); (case side1 => repeat (first | exact (Kd.R_reads' HO591.out).2.2 | (with_reducible refine Kd.C_alloc ?_ _) | (with_reducible refine Kd.C_drewN ?_ _) | (with_reducible refine Kd.C_drew ?_))); (case side2 => exact (Kd.R_reads' HO591.out).2.1); rintro e w' ⟨rfl, ⟨nd, rfl⟩⟩; (try first | exact ⟨rfl, _, World.drewN_drewN _ _ _⟩ | exact ⟨rfl, _, Eq.trans (World.drewN_drewN _ _ _) (congrArg (World.drewN _) (Nat.add_assoc _ _ _))⟩))); go_upto_region 6 with (first | (go_at_call 39; (with_reducible refine (laws_rBig.calls _ _ l0 false _ ?side1 ?side2 A2.out).mono ?_); (case side1 => repeat (first | exact HR0.out | (with_reducible refine Kd.C_alloc ?_ _) | (with_reducible refine Kd.C_drewN ?_ _) | (with_reducible refine Kd.C_drew ?_))); (case side2 => exact HC0.out); rintro e w' ⟨rfl, ⟨nd, rfl⟩⟩; (try first | exact ⟨rfl, _, World.drewN_drewN _ _ _⟩ | exact ⟨rfl, _, Eq.trans (World.drewN_drewN _ _ _) (congrArg (World.drewN _) (Nat.add_assoc _ _ _))⟩)) | (go_at_call 40; (with_reducible refine (spec_DrawLongestSpell.calls k _ _ l0 t588 t589 _ ?side1 ?side2 A4.out).mono ?_); (case side1 => repeat (first | exact HR0.out | (with_reducible refine Kd.C_alloc ?_ _) | (with_reducible refine Kd.C_drewN ?_ _) | (with_reducible refine Kd.C_drew ?_))); (case side2 => exact HC0.out); rintro e w8 ⟨v590, rfl, ho0, hb⟩; have n0_ := Aside0.mk (Kd.R_lower ho0 (below_size (by repeat (first | (with_reducible first | exact HB.out | apply below_alloc | apply pw_below_drewN | apply below_drew1) | exact HB.out)))); have n1_ := Aside0.mk (below_step (by repeat (first | (with_reducible first | exact HB.out | apply below_alloc | apply pw_below_drewN | apply below_drew1) | exact HB.out)) hb); clear HB; have HO591 := n0_; have HB := n1_; clear n0_ n1_; (try clear hb); (try clear hb2); (try clear hk); (try clear hi); (try clear ho0); obtain ⟨Ao9, co9, eo9⟩ := Kd.R_slice HO591.out; subst eo9) | (go_at_call 20; (with_reducible refine (impl_LongestSpell.calls k _ _ t588 t589 t592 t593 t594 _ ?side1 ?side2 A5.out).mono ?_); (case side1 => repeat (first | exact (Kd.R_reads' HO591.out).2.2 | (with_reducible refine Kd.C_alloc ?_ _) | (with_reducible refine Kd.C_drewN ?_ _) | (with_reducible refine Kd.C_drew ?_))); (case side2 => exact (Kd.R_reads' HO591.out).2.1); rintro e w' ⟨rfl, ⟨nd, rfl⟩⟩; (try first | exact ⟨rfl, _, World.drewN_drewN _ _ _⟩ | exact ⟨rfl, _, Eq.trans (World.drewN_drewN _ _ _) (congrArg (World.drewN _) (Nat.add_assoc _ _ _))⟩)) | (go_at_call 19; (with_reducible refine (spec_LongestSpell.calls k _ _ t588 t589 t595 t596 t597 _ ?side1 ?side2 A6.out).mono ?_); (case side1 => repeat (first | exact (Kd.R_reads' HO591.out).2.2 | (with_reducible refine Kd.C_alloc ?_ _) | (with_reducible refine Kd.C_drewN ?_ _) | (with_reducible refine Kd.C_drew ?_))); (case side2 => exact (Kd.R_reads' HO591.out).2.1); rintro e w' ⟨rfl, ⟨nd, rfl⟩⟩; (try first | exact ⟨rfl, _, World.drewN_drewN _ _ _⟩ | exact ⟨rfl, _, Eq.trans (World.drewN_drewN _ _ _) (congrArg (World.drewN _) (Nat.add_assoc _ _ _))⟩))))
  (try simp only [Act.put, List.setIfInBounds_toArray, List.set_cons_zero, List.set_cons_succ])
  go_cut [64] (fun v64 wc => ∃ (kq : Nat) (x64_6 : Bool), v64 = .bool x64_6 ∧ Aside0 (laws_FnSpells.j0 kq l0 t588 t589 t592 t593 t594 x64_6 = some r) ∧ Aside0 (kq ≤ k) ∧ Aside0 (Kd.R (Kd.int .i64) 3 wc w.heap.size (fun _ => True) (.slice Ao9 t588.length co9) t588) ∧ Aside0 (Below w.heap.size w wc))
  case first =>
   as_aux_lemma =>
    have H := HC7.out
    clear HC7
    by_cases c10 : t592 = t595
    ·
     rw [if_pos c10] at H
     have c10b0 : (t592 == t595) = true := beq_iff_eq.mpr c10
     have c10b1 : (t592 != t595) = false := bne_eq_false_iff_eq.mpr c10
     clear c10
     (first | rw [c10b0] | (simp only [i64_w, i32_w]; rw [c10b0]) | skip)
     by_cases c11 : t593 = t596
     ·
      rw [if_pos c11] at H
      have c11b0 : (t593 == t596) = true := beq_iff_eq.mpr c11
      have c11b1 : (t593 != t596) = false := bne_eq_false_iff_eq.mpr c11
      clear c11
      have H' := Aside0.mk H
      clear H
      go_wp2
      repeat (go_quiet (fail); try go_wp2)
      go_meet
      case rel => exact ⟨_, ((t594 != t597)), (by first | rfl | (simp; done) | (simp [*]; done)), H', ⟨by first | omega | exact Nat.le_refl _⟩, ⟨by (with_reducible repeat (first | apply Kd.R_alloc | apply Kd.R_drewN | apply Kd.R_drew)); exact HO591.out⟩, ⟨by repeat (first | (with_reducible first | exact HB.out | apply below_alloc | apply pw_below_drewN | apply below_drew1) | exact HB.out)⟩⟩
     ·
      rw [if_neg c11] at H
      have c11b0 : (t593 == t596) = false := beq_eq_false_iff_ne.mpr c11
      have c11b1 : (t593 != t596) = true := bne_iff_ne.mpr c11
      have H' := Aside0.mk H
      clear H
      go_wp2
      repeat (go_quiet (fail); try go_wp2)
      go_meet
      case rel => exact ⟨_, (true), (by first | rfl | (simp; done) | (simp [*]; done)), H', ⟨by first | omega | exact Nat.le_refl _⟩, ⟨by (with_reducible repeat (first | apply Kd.R_alloc | apply Kd.R_drewN | apply Kd.R_drew)); exact HO591.out⟩, ⟨by repeat (first | (with_reducible first | exact HB.out | apply below_alloc | apply pw_below_drewN | apply below_drew1) | exact HB.out)⟩⟩
    ·
     rw [if_neg c10] at H
     have c10b0 : (t592 == t595) = false := beq_eq_false_iff_ne.mpr c10
     have c10b1 : (t592 != t595) = true := bne_iff_ne.mpr c10
     (first | rw [c10b0] | (simp only [i64_w, i32_w]; rw [c10b0]) | skip)
     have H' := Aside0.mk H
     clear H
     go_wp2
     repeat (go_quiet (fail); try go_wp2)
     go_meet
     case rel => exact ⟨_, (true), (by first | rfl | (simp; done) | (simp [*]; done)), H', ⟨by first | omega | exact Nat.le_refl _⟩, ⟨by (with_reducible repeat (first | apply Kd.R_alloc | apply Kd.R_drewN | apply Kd.R_drew)); exact HO591.out⟩, ⟨by repeat (first | (with_reducible first | exact HB.out | apply below_alloc | apply pw_below_drewN | apply below_drew1) | exact HB.out)⟩⟩
  case rest =>
   as_aux_lemma =>
    clear HC7
    try clear c1
    try clear p2
    try clear c3
    try clear c10
    try clear c10b0
    try clear c10b1
    try clear c11
    try clear c11b0
    try clear c11b1
    obtain ⟨kq, x64_6, rfl, HA, HJ6, HO_3, HB⟩ := hcut
    cases kq with
    | zero => exact absurd HA.out (by simp [laws_FnSpells.j0])
    | succ kj6 =>
     have H := HA.out
     clear HA
     simp only [laws_FnSpells.j0] at H
     by_cases c12 : x64_6 = true
     ·
      subst c12
      have H1 : (some false) = some r := by rw [if_pos rfl] at H; exact H
      exact absurd ((Option.some.inj H1).trans hrt_) (by decide)
     ·
      replace c12 := Bool.eq_false_iff.mpr c12
      subst c12
      have H1 : (laws_FnSpells.l0 kj6 l0 t588 t589 t593 t594 t592) = some r := by rw [if_neg (show ¬ (false = true) by decide)] at H; exact H
      clear H
      have H := H1
      clear H1
      have H' := Aside0.mk H
      clear H
      go_wp2
      repeat (go_quiet (fail); try go_wp2)
      go_loopg [11] kj6 (fun kq v11 w' => ∃ (x11_2 : Int), v11 = .int .i64 x11_2 ∧ Aside0 (laws_FnSpells.l0 kq l0 t588 t589 t593 t594 x11_2 = some r) ∧ Aside0 (kq ≤ kj6) ∧ Aside0 (Kd.R (Kd.int .i64) 3 w' w.heap.size (fun _ => True) (.slice Ao9 t588.length co9) t588) ∧ Aside0 (Below w.heap.size w w'))
      case atStart => exact ⟨(t592), (by first | rfl | (simp; done) | (simp [*]; done)), H', ⟨Nat.le_refl _⟩, ⟨by (with_reducible repeat (first | apply Kd.R_alloc | apply Kd.R_drewN | apply Kd.R_drew)); exact HO_3.out⟩, ⟨by repeat (first | (with_reducible first | exact HB.out | apply below_alloc | apply pw_below_drewN | apply below_drew1) | exact HB.out)⟩⟩
      case round =>
       as_aux_lemma =>
        clear H'
        try clear c1
        try clear p2
        try clear c3
        try clear c10
        try clear c10b0
        try clear c10b1
        try clear c11
        try clear c11b0
        try clear c11b1
        try clear c12
        try clear p2
        obtain ⟨x11_2, rfl, HA, HK2, HO_3, HB⟩ := hrel
        cases gk with
        | zero => exact absurd HA.out (by simp [laws_FnSpells.l0])
        | succ k2 =>
         have H := HA.out
         clear HA
         simp only [laws_FnSpells.l0] at H
         have HC13 := Aside0.mk H
         clear H
         go_upto_region 9 with (fail)
         repeat (go_quiet (fail); go_upto_region 9 with (fail))
         go_cut [71] (fun v71 wc => ∃ (kq : Nat) (x71_12 : Bool), v71 = .bool x71_12 ∧ Aside0 (laws_FnSpells.j2 kq l0 t588 t589 t593 t594 x11_2 x71_12 = some r) ∧ Aside0 (kq ≤ k2) ∧ Aside0 (Kd.R (Kd.int .i64) 3 wc w.heap.size (fun _ => True) (.slice Ao9 t588.length co9) t588) ∧ Aside0 (Below w.heap.size w wc))
         case first =>
          as_aux_lemma =>
           have H := HC13.out
           clear HC13
           by_cases c14 : t594 = true
           ·
            subst c14
            have H1 : (laws_FnSpells.j2 k2 l0 t588 t589 t593 true x11_2 (decide (x11_2 ≤ t593))) = some r := by rw [if_pos rfl] at H; exact H
            clear H
            have H := H1
            clear H1
            have H' := Aside0.mk H
            clear H
            go_wp2
            repeat (go_quiet (fail); try go_wp2)
            go_meet
            case rel => exact ⟨_, (decide (x11_2 ≤ t593)), (by first | rfl | (simp; done) | (simp [*]; done)), H', ⟨by have := HJ6.out; have := HK2.out; first | omega | exact Nat.le_refl _⟩, ⟨by (with_reducible repeat (first | apply Kd.R_alloc | apply Kd.R_drewN | apply Kd.R_drew)); exact HO_3.out⟩, ⟨by repeat (first | (with_reducible first | exact HB.out | apply below_alloc | apply pw_below_drewN | apply below_drew1) | exact HB.out)⟩⟩
           ·
            replace c14 := Bool.eq_false_iff.mpr c14
            subst c14
            have H1 : (laws_FnSpells.j2 k2 l0 t588 t589 t593 false x11_2 false) = some r := by rw [if_neg (show ¬ (false = true) by decide)] at H; exact H
            clear H
            have H := H1
            clear H1
            have H' := Aside0.mk H
            clear H
            go_wp2
            repeat (go_quiet (fail); try go_wp2)
            go_meet
            case rel => exact ⟨_, (false), (by first | rfl | (simp; done) | (simp [*]; done)), H', ⟨by have := HJ6.out; have := HK2.out; first | omega | exact Nat.le_refl _⟩, ⟨by (with_reducible repeat (first | apply Kd.R_alloc | apply Kd.R_drewN | apply Kd.R_drew)); exact HO_3.out⟩, ⟨by repeat (first | (with_reducible first | exact HB.out | apply below_alloc | apply pw_below_drewN | apply below_drew1) | exact HB.out)⟩⟩
         case rest =>
          as_aux_lemma =>
           clear HC13
           try clear c1
           try clear p2
           try clear c3
           try clear c10
           try clear c10b0
           try clear c10b1
           try clear c11
           try clear c11b0
           try clear c11b1
           try clear c12
           try clear c13
           try clear c14
           try clear p2
           obtain ⟨kq, x71_12, rfl, HA, HJ12, HO_3, HB⟩ := hcut
           cases kq with
           | zero => exact absurd HA.out (by simp [laws_FnSpells.j2])
           | succ kj12 =>
            have H := HA.out
            clear HA
            simp only [laws_FnSpells.j2] at H
            by_cases c15 : x71_12 = true
            ·
             subst c15
             have H1 : (if 0 ≤ x11_2 then (if x11_2 < (t588.length : Int) then (if (rd t588 x11_2) < t589 then (some false) else (laws_FnSpells.l0 kj12 l0 t588 t589 t593 t594 (wrap64 (x11_2 + 1)))) else (none)) else (none)) = some r := by rw [if_pos rfl] at H; exact H
             clear H
             have H := H1
             clear H1
             by_cases c16 : 0 ≤ x11_2
             ·
              rw [if_pos c16] at H
              have c16b0 : decide (0 ≤ x11_2) = true := decide_eq_true c16
              clear c16
              by_cases c17 : x11_2 < (t588.length : Int)
              ·
               rw [if_pos c17] at H
               have c17b0 : decide (x11_2 < (t588.length : Int)) = true := decide_eq_true c17
               clear c17
               by_cases c18 : (rd t588 x11_2) < t589
               ·
                rw [if_pos c18] at H
                have c18b0 : decide ((rd t588 x11_2) < t589) = true := decide_eq_true c18
                clear c18
                exact absurd ((Option.some.inj H).trans hrt_) (by decide)
               ·
                rw [if_neg c18] at H
                have c18b0 : decide ((rd t588 x11_2) < t589) = false := decide_eq_false c18
                clear c18
                have H' := Aside0.mk H
                clear H
                have p598 : 0 ≤ (x11_2 : Int) := of_decide_eq_true (by first | (with_reducible assumption) | assumption)
                have q598 : x11_2 < (t588.length : Int) := of_decide_eq_true (by first | (with_reducible assumption) | assumption)
                obtain ⟨ad598, e598, hx598_0⟩ := Kd.at_int (Kd.R_reads' HO_3.out).2.2 x11_2 p598 q598
                cases e598
                replace p598 := eq_true p598
                replace q598 := eq_true q598
                go_wp2
                repeat (go_quiet (fail); try go_wp2)
                go_roundg kj12
                case measure => have := HJ6.out; have := HK2.out; have := HJ12.out; omega
                case rel => exact ⟨(wrap64 (x11_2 + 1)), (by first | rfl | (simp; done) | (simp [*]; done)), H', ⟨by have := HJ6.out; have := HK2.out; have := HJ12.out; omega⟩, ⟨by (with_reducible repeat (first | apply Kd.R_alloc | apply Kd.R_drewN | apply Kd.R_drew)); exact HO_3.out⟩, ⟨by repeat (first | (with_reducible first | exact HB.out | apply below_alloc | apply pw_below_drewN | apply below_drew1) | exact HB.out)⟩⟩
              ·
               rw [if_neg c17] at H
               exact absurd H (by simp)
             ·
              rw [if_neg c16] at H
              exact absurd H (by simp)
            ·
             replace c15 := Bool.eq_false_iff.mpr c15
             subst c15
             have H1 : ((spec_DrawFillGaps.f kj12 l0).bind fun t599 => ((impl_FillGaps.f kj12 t599).bind fun bt602 => ((spec_FillGaps.f kj12 t599).bind fun bt606 => (if (bt602.2 != bt606.2) = true then (laws_FnSpells.j3 kj12 l0 t599 bt602.1 bt602.2 true) else ((laws_rInts.f kj12 bt602.1 bt606.1).bind fun t610 => (laws_FnSpells.j3 kj12 l0 t599 bt602.1 bt602.2 (!t610))))))) = some r := by rw [if_neg (show ¬ (false = true) by decide)] at H; exact H
             clear H
             have H := H1
             clear H1
             replace H := Option.bind_eq_some_iff.mp H
             obtain ⟨t599, A190, H⟩ := H
             replace H : ((impl_FillGaps.f kj12 t599).bind fun bt602 => ((spec_FillGaps.f kj12 t599).bind fun bt606 => (if (bt602.2 != bt606.2) = true then (laws_FnSpells.j3 kj12 l0 t599 bt602.1 bt602.2 true) else ((laws_rInts.f kj12 bt602.1 bt606.1).bind fun t610 => (laws_FnSpells.j3 kj12 l0 t599 bt602.1 bt602.2 (!t610)))))) = some r := H
             have A19 := Aside0.mk A190
             clear A190
             replace H := Option.bind_eq_some_iff.mp H
             obtain ⟨⟨t602, t603⟩, A200, H⟩ := H
             replace H : ((spec_FillGaps.f kj12 t599).bind fun bt606 => (if (t603 != bt606.2) = true then (laws_FnSpells.j3 kj12 l0 t599 t602 t603 true) else ((laws_rInts.f kj12 t602 bt606.1).bind fun t610 => (laws_FnSpells.j3 kj12 l0 t599 t602 t603 (!t610))))) = some r := H
             have A20 := Aside0.mk A200
             clear A200
             replace H := Option.bind_eq_some_iff.mp H
             obtain ⟨⟨t606, t607⟩, A210, H⟩ := H
             replace H : (if (t603 != t607) = true then (laws_FnSpells.j3 kj12 l0 t599 t602 t603 true) else ((laws_rInts.f kj12 t602 t606).bind fun t610 => (laws_FnSpells.j3 kj12 l0 t599 t602 t603 (!t610)))) = some r := H
             have A21 := Aside0.mk A210
             clear A210
             have HC22 := Aside0.mk H
             clear H
             go_upto_region 16 with (first | (go_at_call 41; (with_reducible refine (spec_DrawFillGaps.calls kj12 _ _ l0 t599 _ ?side1 ?side2 A19.out).mono ?_); (case side1 => repeat (first | exact (Kd.C_below HR0.out HB.out) | (with_reducible refine Kd.C_alloc ?_ _) | (with_reducible refine Kd.C_drewN ?_ _) | (with_reducible refine Kd.C_drew ?_))); (case side2 => exact HC0.out); rintro e w23 ⟨v600, rfl, ho0, hb⟩; have n0_ := Aside0.mk (Kd.R_elder' (by (with_reducible repeat (first | apply Kd.R_alloc | apply Kd.R_drewN | apply Kd.R_drew)); exact HO_3.out) (Kd.R_base ho0) hb); have n1_ := Aside0.mk (Kd.R_lower (Kd.R_new' ho0 (Kd.R_lt (by (with_reducible repeat (first | apply Kd.R_alloc | apply Kd.R_drewN | apply Kd.R_drew)); exact HO_3.out))) (below_size (by repeat (first | (with_reducible first | exact HB.out | apply below_alloc | apply pw_below_drewN | apply below_drew1) | exact HB.out)))); have n2_ := Aside0.mk (below_step (by repeat (first | (with_reducible first | exact HB.out | apply below_alloc | apply pw_below_drewN | apply below_drew1) | exact HB.out)) hb); clear HO_3; clear HB; have HO_3 := n0_; have HO601 := n1_; have HB := n2_; clear n0_ n1_ n2_; (try clear hb); (try clear hb2); (try clear hk); (try clear hi); (try clear ho0); obtain ⟨Ao24, co24, eo24⟩ := Kd.R_slice HO601.out; subst eo24) | (go_at_call 32; (with_reducible refine (impl_FillGaps.calls kj12 _ _ t599 t602 t603 _ ?side1 ?side2 A20.out).mono ?_); (case side1 => repeat (first | exact (Kd.R_reads' HO601.out).2.2 | (with_reducible refine Kd.C_alloc ?_ _) | (with_reducible refine Kd.C_drewN ?_ _) | (with_reducible refine Kd.C_drew ?_))); (case side2 => exact (Kd.R_reads' HO601.out).2.1); rintro e w25 ⟨v604, rfl, ho0, hb⟩; have n0_ := Aside0.mk (Kd.R_elder' (by (with_reducible repeat (first | apply Kd.R_alloc | apply Kd.R_drewN | apply Kd.R_drew)); exact HO_3.out) (Kd.R_base ho0) hb); have n1_ := Aside0.mk (Kd.R_elder' (by (with_reducible repeat (first | apply Kd.R_alloc | apply Kd.R_drewN | apply Kd.R_drew)); exact HO601.out) (Kd.R_base ho0) hb); have n2_ := Aside0.mk (Kd.R_lower (Kd.R_new' (Kd.R_new' ho0 (Kd.R_lt (by (with_reducible repeat (first | apply Kd.R_alloc | apply Kd.R_drewN | apply Kd.R_drew)); exact HO_3.out))) (Kd.R_lt (by (with_reducible repeat (first | apply Kd.R_alloc | apply Kd.R_drewN | apply Kd.R_drew)); exact HO601.out))) (below_size (by repeat (first | (with_reducible first | exact HB.out | apply below_alloc | apply pw_below_drewN | apply below_drew1) | exact HB.out)))); have n3_ := Aside0.mk (below_step (by repeat (first | (with_reducible first | exact HB.out | apply below_alloc | apply pw_below_drewN | apply below_drew1) | exact HB.out)) hb); clear HO_3; clear HO601; clear HB; have HO_3 := n0_; have HO601 := n1_; have HO605 := n2_; have HB := n3_; clear n0_ n1_ n2_ n3_; (try clear hb); (try clear hb2); (try clear hk); (try clear hi); (try clear ho0)) | (go_at_call 31; (with_reducible refine (spec_FillGaps.calls kj12 _ _ t599 t606 t607 _ ?side1 ?side2 A21.out).mono ?_); (case side1 => repeat (first | exact (Kd.R_reads' HO601.out).2.2 | (with_reducible refine Kd.C_alloc ?_ _) | (with_reducible refine Kd.C_drewN ?_ _) | (with_reducible refine Kd.C_drew ?_))); (case side2 => exact (Kd.R_reads' HO601.out).2.1); rintro e w26 ⟨v608, rfl, ho0, hb⟩; have n0_ := Aside0.mk (Kd.R_elder' (by (with_reducible repeat (first | apply Kd.R_alloc | apply Kd.R_drewN | apply Kd.R_drew)); exact HO_3.out) (Kd.R_base ho0) hb); have n1_ := Aside0.mk (Kd.R_elder' (by (with_reducible repeat (first | apply Kd.R_alloc | apply Kd.R_drewN | apply Kd.R_drew)); exact HO601.out) (Kd.R_base ho0) hb); have n2_ := Aside0.mk (Kd.R_elder' (by (with_reducible repeat (first | apply Kd.R_alloc | apply Kd.R_drewN | apply Kd.R_drew)); exact HO605.out) (Kd.R_base ho0) hb); have n3_ := Aside0.mk (Kd.R_lower (Kd.R_new' (Kd.R_new' (Kd.R_new' ho0 (Kd.R_lt (by (with_reducible repeat (first | apply Kd.R_alloc | apply Kd.R_drewN | apply Kd.R_drew)); exact HO_3.out))) (Kd.R_lt (by (with_reducible repeat (first | apply Kd.R_alloc | apply Kd.R_drewN | apply Kd.R_drew)); exact HO601.out))) (Kd.R_lt (by (with_reducible repeat (first | apply Kd.R_alloc | apply Kd.R_drewN | apply Kd.R_drew)); exact HO605.out))) (below_size (by repeat (first | (with_reducible first | exact HB.out | apply below_alloc | apply pw_below_drewN | apply below_drew1) | exact HB.out)))); have n4_ := Aside0.mk (below_step (by repeat (first | (with_reducible first | exact HB.out | apply below_alloc | apply pw_below_drewN | apply below_drew1) | exact HB.out)) hb); clear HO_3; clear HO601; clear HO605; clear HB; have HO_3 := n0_; have HO601 := n1_; have HO605 := n2_; have HO609 := n3_; have HB := n4_; clear n0_ n1_ n2_ n3_ n4_; (try clear hb); (try clear hb2); (try clear hk); (try clear hi); (try clear ho0)))
             repeat (go_quiet (first | (go_at_call 41; (with_reducible refine (spec_DrawFillGaps.calls kj12 _ _ l0 t599 _ ?side1 ?side2 A19.out).mono ?_); (case side1 => repeat (first | exact (Kd.C_below HR0.out HB.out) | (with_reducible refine Kd.C_alloc ?_ _) | (with_reducible refine Kd.C_drewN ?_ _) | (with_reducible refine Kd.C_drew ?_))); (case side2 => exact HC0.out); rintro e w23 ⟨v600, rfl, ho0, hb⟩; have n0_ := Aside0.mk (Kd.R_elder' (by (with_reducible repeat (first | apply Kd.R_alloc | apply Kd.R_drewN | apply Kd.R_drew)); exact HO_3.out) (Kd.R_base ho0) hb); have n1_ := Aside0.mk (Kd.R_lower (Kd.R_new' ho0 (Kd.R_lt (by (with_reducible repeat (first | apply Kd.R_alloc | apply Kd.R_drewN | apply Kd.R_drew)); exact HO_3.out))) (below_size (by repeat (first | (with_reducible first | exact HB.out | apply below_alloc | apply pw_below_drewN | apply below_drew1) | exact HB.out)))); have n2_ := Aside0.mk (below_step (by repeat (first | (with_reducible first | exact HB.out | apply below_alloc | apply pw_below_drewN | apply below_drew1) | exact HB.out)) hb); clear HO_3; clear HB; have HO_3 := n0_; have HO601 := n1_; have HB := n2_; clear n0_ n1_ n2_; (try clear hb); (try clear hb2); (try clear hk); (try clear hi); (try clear ho0); obtain ⟨Ao24, co24, eo24⟩ := Kd.R_slice HO601.out; subst eo24) | (go_at_call 32; (with_reducible refine (impl_FillGaps.calls kj12 _ _ t599 t602 t603 _ ?side1 ?side2 A20.out).mono ?_); (case side1 => repeat (first | exact (Kd.R_reads' HO601.out).2.2 | (with_reducible refine Kd.C_alloc ?_ _) | (with_reducible refine Kd.C_drewN ?_ _) | (with_reducible refine Kd.C_drew ?_))); (case side2 => exact (Kd.R_reads' HO601.out).2.1); rintro e w25 ⟨v604, rfl, ho0, hb⟩; have n0_ := Aside0.mk (Kd.R_elder' (by (with_reducible repeat (first | apply Kd.R_alloc | apply Kd.R_drewN | apply Kd.R_drew)); exact HO_3.out) (Kd.R_base ho0) hb); have n1_ := Aside0.mk (Kd.R_elder' (by (with_reducible repeat (first | apply Kd.R_alloc | apply Kd.R_drewN | apply Kd.R_drew)); exact HO601.out) (Kd.R_base ho0) hb); have n2_ := Aside0.mk (Kd.R_lower (Kd.R_new' (Kd.R_new' ho0 (Kd.R_lt (by (with_reducible repeat (first | apply Kd.R_alloc | apply Kd.R_drewN | apply Kd.R_drew)); exact HO_3.out))) (Kd.R_lt (by (with_reducible repeat (first | apply Kd.R_alloc | apply Kd.R_drewN | apply Kd.R_drew)); exact HO601.out))) (below_size (by repeat (first | (with_reducible first | exact HB.out | apply below_alloc | apply pw_below_drewN | apply below_drew1) | exact HB.out)))); have n3_ := Aside0.mk (below_step (by repeat (first | (with_reducible first | exact HB.out | apply below_alloc | apply pw_below_drewN | apply below_drew1) | exact HB.out)) hb); clear HO_3; clear HO601; clear HB; have HO_3 := n0_; have HO601 := n1_; have HO605 := n2_; have HB := n3_; clear n0_ n1_ n2_ n3_; (try clear hb); (try clear hb2); (try clear hk); (try clear hi); (try clear ho0)) | (go_at_call 31; (with_reducible refine (spec_FillGaps.calls kj12 _ _ t599 t606 t607 _ ?side1 ?side2 A21.out).mono ?_); (case side1 => repeat (first | exact (Kd.R_reads' HO601.out).2.2 | (with_reducible refine Kd.C_alloc ?_ _) | (with_reducible refine Kd.C_drewN ?_ _) | (with_reducible refine Kd.C_drew ?_))); (case side2 => exact (Kd.R_reads' HO601.out).2.1); rintro e w26 ⟨v608, rfl, ho0, hb⟩; have n0_ := Aside0.mk (Kd.R_elder' (by (with_reducible repeat (first | apply Kd.R_alloc | apply Kd.R_drewN | apply Kd.R_drew)); exact HO_3.out) (Kd.R_base ho0) hb); have n1_ := Aside0.mk (Kd.R_elder' (by (with_reducible repeat (first | apply Kd.R_alloc | apply Kd.R_drewN | apply Kd.R_drew)); exact HO601.out) (Kd.R_base ho0) hb); have n2_ := Aside0.mk (Kd.R_elder' (by (with_reducible repeat (first | apply Kd.R_alloc | apply Kd.R_drewN | apply Kd.R_drew)); exact HO605.out) (Kd.R_base ho0) hb); have n3_ := Aside0.mk (Kd.R_lower (Kd.R_new' (Kd.R_new' (Kd.R_new' ho0 (Kd.R_lt (by (with_reducible repeat (first | apply Kd.R_alloc | apply Kd.R_drewN | apply Kd.R_drew)); exact HO_3.out))) (Kd.R_lt (by (with_reducible repeat (first | apply Kd.R_alloc | apply Kd.R_drewN | apply Kd.R_drew)); exact HO601.out))) (Kd.R_lt (by (with_reducible repeat (first | apply Kd.R_alloc | apply Kd.R_drewN | apply Kd.R_drew)); exact HO605.out))) (below_size (by repeat (first | (with_reducible first | exact HB.out | apply below_alloc | apply pw_below_drewN | apply below_drew1) | exact HB.out)))); have n4_ := Aside0.mk (below_step (by repeat (first | (with_reducible first | exact HB.out | apply below_alloc | apply pw_below_drewN | apply below_drew1) | exact HB.out)) hb); clear HO_3; clear HO601; clear HO605; clear HB; have HO_3 := n0_; have HO601 := n1_; have HO605 := n2_; have HO609 := n3_; have HB := n4_; clear n0_ n1_ n2_ n3_ n4_; (try clear hb); (try clear hb2); (try clear hk); (try clear hi); (try clear ho0))); go_upto_region 16 with (first | (go_at_call 41; (with_reducible refine (spec_DrawFillGaps.calls kj12 _ _ l0 t599 _ ?side1 ?side2 A19.out).mono ?_); (case side1 => repeat (first | exact (Kd.C_below HR0.out HB.out) | (with_reducible refine Kd.C_alloc ?_ _) | (with_reducible refine Kd.C_drewN ?_ _) | (with_reducible refine Kd.C_drew ?_))); (case side2 => exact HC0.out); rintro e w23 ⟨v600, rfl, ho0, hb⟩; have n0_ := Aside0.mk (Kd.R_elder' (by (with_reducible repeat (first | apply Kd.R_alloc | apply Kd.R_drewN | apply Kd.R_drew)); exact HO_3.out) (Kd.R_base ho0) hb); have n1_ := Aside0.mk (Kd.R_lower (Kd.R_new' ho0 (Kd.R_lt (by (with_reducible repeat (first | apply Kd.R_alloc | apply Kd.R_drewN | apply Kd.R_drew)); exact HO_3.out))) (below_size (by repeat (first | (with_reducible first | exact HB.out | apply below_alloc | apply pw_below_drewN | apply below_drew1) | exact HB.out)))); have n2_ := Aside0.mk (below_step (by repeat (first | (with_reducible first | exact HB.out | apply below_alloc | apply pw_below_drewN | apply below_drew1) | exact HB.out)) hb); clear HO_3; clear HB; have HO_3 := n0_; have HO601 := n1_; have HB := n2_; clear n0_ n1_ n2_; (try clear hb); (try clear hb2); (try clear hk); (try clear hi); (try clear ho0); obtain ⟨Ao24, co24, eo24⟩ := Kd.R_slice HO601.out; subst eo24) | (go_at_call 32; (with_reducible refine (impl_FillGaps.calls kj12 _ _ t599 t602 t603 _ ?side1 ?side2 A20.out).mono ?_); (case side1 => repeat (first | exact (Kd.R_reads' HO601.out).2.2 | (with_reducible refine Kd.C_alloc ?_ _) | (with_reducible refine Kd.C_drewN ?_ _) | (with_reducible refine Kd.C_drew ?_))); (case side2 => exact (Kd.R_reads' HO601.out).2.1); rintro e w25 ⟨v604, rfl, ho0, hb⟩; have n0_ := Aside0.mk (Kd.R_elder' (by (with_reducible repeat (first | apply Kd.R_alloc | apply Kd.R_drewN | apply Kd.R_drew)); exact HO_3.out) (Kd.R_base ho0) hb); have n1_ := Aside0.mk (Kd.R_elder' (by (with_reducible repeat (first | apply Kd.R_alloc | apply Kd.R_drewN | apply Kd.R_drew)); exact HO601.out) (Kd.R_base ho0) hb); have n2_ := Aside0.mk (Kd.R_lower (Kd.R_new' (Kd.R_new' ho0 (Kd.R_lt (by (with_reducible repeat (first | apply Kd.R_alloc | apply Kd.R_drewN | apply Kd.R_drew)); exact HO_3.out))) (Kd.R_lt (by (with_reducible repeat (first | apply Kd.R_alloc | apply Kd.R_drewN | apply Kd.R_drew)); exact HO601.out))) (below_size (by repeat (first | (with_reducible first | exact HB.out | apply below_alloc | apply pw_below_drewN | apply below_drew1) | exact HB.out)))); have n3_ := Aside0.mk (below_step (by repeat (first | (with_reducible first | exact HB.out | apply below_alloc | apply pw_below_drewN | apply below_drew1) | exact HB.out)) hb); clear HO_3; clear HO601; clear HB; have HO_3 := n0_; have HO601 := n1_; have HO605 := n2_; have HB := n3_; clear n0_ n1_ n2_ n3_; (try clear hb); (try clear hb2); (try clear hk); (try clear hi); (try clear ho0)) | (go_at_call 31; (with_reducible refine (spec_FillGaps.calls kj12 _ _ t599 t606 t607 _ ?side1 ?side2 A21.out).mono ?_); (case side1 => repeat (first | exact (Kd.R_reads' HO601.out).2.2 | (with_reducible refine Kd.C_alloc ?_ _) | (with_reducible refine Kd.C_drewN ?_ _) | (with_reducible refine Kd.C_drew ?_))); (case side2 => exact (Kd.R_reads' HO601.out).2.1); rintro e w26 ⟨v608, rfl, ho0, hb⟩; have n0_ := Aside0.mk (Kd.R_elder' (by (with_reducible repeat (first | apply Kd.R_alloc | apply Kd.R_drewN | apply Kd.R_drew)); exact HO_3.out) (Kd.R_base ho0) hb); have n1_ := Aside0.mk (Kd.R_elder' (by (with_reducible repeat (first | apply Kd.R_alloc | apply Kd.R_drewN | apply Kd.R_drew)); exact HO601.out) (Kd.R_base ho0) hb); have n2_ := Aside0.mk (Kd.R_elder' (by (with_reducible repeat (first | apply Kd.R_alloc | apply Kd.R_drewN | apply Kd.R_drew)); exact HO605.out) (Kd.R_base ho0) hb); have n3_ := Aside0.mk (Kd.R_lower (Kd.R_new' (Kd.R_new' (Kd.R_new' ho0 (Kd.R_lt (by (with_reducible repeat (first | apply Kd.R_alloc | apply Kd.R_drewN | apply Kd.R_drew)); exact HO_3.out))) (Kd.R_lt (by (with_reducible repeat (first | apply Kd.R_alloc | apply Kd.R_drewN | apply Kd.R_drew)); exact HO601.out))) (Kd.R_lt (by (with_reducible repeat (first | apply Kd.R_alloc | apply Kd.R_drewN | apply Kd.R_drew)); exact HO605.out))) (below_size (by repeat (first | (with_reducible first | exact HB.out | apply below_alloc | apply pw_below_drewN | apply below_drew1) | exact HB.out)))); have n4_ := Aside0.mk (below_step (by repeat (first | (with_reducible first | exact HB.out | apply below_alloc | apply pw_below_drewN | apply below_drew1) | exact HB.out)) hb); clear HO_3; clear HO601; clear HO605; clear HB; have HO_3 := n0_; have HO601 := n1_; have HO605 := n2_; have HO609 := n3_; have HB := n4_; clear n0_ n1_ n2_ n3_ n4_; (try clear hb); (try clear hb2); (try clear hk); (try clear hi); (try clear ho0))))
             (try simp only [Act.put, List.setIfInBounds_toArray, List.set_cons_zero, List.set_cons_succ])
             go_cut [100] (fun v100 wc => ∃ (kq : Nat) (x100_21 : Bool), v100 = .bool x100_21 ∧ Aside0 (laws_FnSpells.j3 kq l0 t599 t602 t603 x100_21 = some r) ∧ Aside0 (kq ≤ kj12) ∧ Aside0 (Kd.R (Kd.int .i64) 3 wc w.heap.size (fun k_ => some k_ ≠ (v604 : Value).ownBlock) (.slice Ao24 t599.length co24) t599) ∧ Aside0 (Kd.R (Kd.int .i64) 3 wc w.heap.size (fun k_ => some k_ ≠ ((.slice Ao24 t599.length co24) : Value).ownBlock) v604 t602) ∧ Aside0 (Below w.heap.size w wc))
             case first =>
              as_aux_lemma =>
               have H := HC22.out
               clear HC22
               by_cases c27 : (t603 != t607) = true
               ·
                rw [if_pos c27] at H
                have c27b0 : (t603 != t607) = true := c27
                (try (have c27b1 : decide (t603 = t607) = false := by simpa using c27))
                (try (have c27b2 : (t603 == t607) = false := by simpa using c27))
                (try (have c27b3 : ¬ (t603 = t607) := by simpa using c27))
                clear c27
                (first | rw [c27b0] | (simp only [i64_w, i32_w]; rw [c27b0]) | skip)
                have H' := Aside0.mk H
                clear H
                go_wp2
                repeat (go_quiet (fail); try go_wp2)
                go_meet
                case rel => exact ⟨_, (true), (by first | rfl | (simp; done) | (simp [*]; done)), H', ⟨by have := HJ6.out; have := HK2.out; have := HJ12.out; first | omega | exact Nat.le_refl _⟩, ⟨by (with_reducible repeat (first | apply Kd.R_alloc | apply Kd.R_drewN | apply Kd.R_drew)); exact Kd.R_mono HO601.out (fun _ hk => hk.1.2)⟩, ⟨by (with_reducible repeat (first | apply Kd.R_alloc | apply Kd.R_drewN | apply Kd.R_drew)); exact Kd.R_mono HO605.out (fun _ hk => hk.1.2)⟩, ⟨by repeat (first | (with_reducible first | exact HB.out | apply below_alloc | apply pw_below_drewN | apply below_drew1) | exact HB.out)⟩⟩
               ·
                rw [if_neg c27] at H
                have c27b0 : (t603 != t607) = false := by simpa using c27
                (try (have c27b1 : decide (t603 = t607) = true := by simpa using c27))
                (try (have c27b2 : (t603 == t607) = true := by simpa using c27))
                clear c27
                (first | rw [c27b0] | (simp only [i64_w, i32_w]; rw [c27b0]) | skip)
                replace H := Option.bind_eq_some_iff.mp H
                obtain ⟨t610, A280, H⟩ := H
                replace H : (laws_FnSpells.j3 kj12 l0 t599 t602 t603 (!t610)) = some r := H
                have A28 := Aside0.mk A280
                clear A280
                have H' := Aside0.mk H
                clear H
                obtain ⟨Ao29, co29, eo29⟩ := Kd.R_slice HO605.out
                subst eo29
                obtain ⟨Ao30, co30, eo30⟩ := Kd.R_slice HO609.out
                subst eo30
                go_wp2_with (first | (go_at_call 42; (with_reducible refine (laws_rInts.calls kj12 _ _ t602 _ _ t606 t610 _ ?side1 ?side2 ?side3 ?side4 A28.out).mono ?_); (case side1 => repeat (first | exact (Kd.R_reads' HO605.out).2.2 | (with_reducible refine Kd.C_alloc ?_ _) | (with_reducible refine Kd.C_drewN ?_ _) | (with_reducible refine Kd.C_drew ?_))); (case side2 => exact (Kd.R_reads' HO605.out).2.1); (case side3 => repeat (first | exact (Kd.R_reads' HO609.out).2.2 | (with_reducible refine Kd.C_alloc ?_ _) | (with_reducible refine Kd.C_drewN ?_ _) | (with_reducible refine Kd.C_drew ?_))); (case side4 => exact (Kd.R_reads' HO609.out).2.1); rintro e w' ⟨rfl, ⟨nd, rfl⟩⟩; (try first | exact ⟨rfl, _, World.drewN_drewN _ _ _⟩ | exact ⟨rfl, _, Eq.trans (World.drewN_drewN _ _ _) (congrArg (World.drewN _) (Nat.add_assoc _ _ _))⟩)))
                repeat (go_quiet (first | (go_at_call 42; (with_reducible refine (laws_rInts.calls kj12 _ _ t602 _ _ t606 t610 _ ?side1 ?side2 ?side3 ?side4 A28.out).mono ?_); (case side1 => repeat (first | exact (Kd.R_reads' HO605.out).2.2 | (with_reducible refine Kd.C_alloc ?_ _) | (with_reducible refine Kd.C_drewN ?_ _) | (with_reducible refine Kd.C_drew ?_))); (case side2 => exact (Kd.R_reads' HO605.out).2.1); (case side3 => repeat (first | exact (Kd.R_reads' HO609.out).2.2 | (with_reducible refine Kd.C_alloc ?_ _) | (with_reducible refine Kd.C_drewN ?_ _) | (with_reducible refine Kd.C_drew ?_))); (case side4 => exact (Kd.R_reads' HO609.out).2.1); rintro e w' ⟨rfl, ⟨nd, rfl⟩⟩; (try first | exact ⟨rfl, _, World.drewN_drewN _ _ _⟩ | exact ⟨rfl, _, Eq.trans (World.drewN_drewN _ _ _) (congrArg (World.drewN _) (Nat.add_assoc _ _ _))⟩))); try go_wp2_with (first | (go_at_call 42; (with_reducible refine (laws_rInts.calls kj12 _ _ t602 _ _ t606 t610 _ ?side1 ?side2 ?side3 ?side4 A28.out).mono ?_); (case side1 => repeat (first | exact (Kd.R_reads' HO605.out).2.2 | (with_reducible refine Kd.C_alloc ?_ _) | (with_reducible refine Kd.C_drewN ?_ _) | (with_reducible refine Kd.C_drew ?_))); (case side2 => exact (Kd.R_reads' HO605.out).2.1); (case side3 => repeat (first | exact (Kd.R_reads' HO609.out).2.2 | (with_reducible refine Kd.C_alloc ?_ _) | (with_reducible refine Kd.C_drewN ?_ _) | (with_reducible refine Kd.C_drew ?_))); (case side4 => exact (Kd.R_reads' HO609.out).2.1); rintro e w' ⟨rfl, ⟨nd, rfl⟩⟩; (try first | exact ⟨rfl, _, World.drewN_drewN _ _ _⟩ | exact ⟨rfl, _, Eq.trans (World.drewN_drewN _ _ _) (congrArg (World.drewN _) (Nat.add_assoc _ _ _))⟩))))
                go_meet
                case rel => exact ⟨_, (!t610), (by first | rfl | (simp; done) | (simp [*]; done)), H', ⟨by have := HJ6.out; have := HK2.out; have := HJ12.out; first | omega | exact Nat.le_refl _⟩, ⟨by (with_reducible repeat (first | apply Kd.R_alloc | apply Kd.R_drewN | apply Kd.R_drew)); exact Kd.R_mono HO601.out (fun _ hk => hk.1.2)⟩, ⟨by (with_reducible repeat (first | apply Kd.R_alloc | apply Kd.R_drewN | apply Kd.R_drew)); exact Kd.R_mono HO605.out (fun _ hk => hk.1.2)⟩, ⟨by repeat (first | (with_reducible first | exact HB.out | apply below_alloc | apply pw_below_drewN | apply below_drew1) | exact HB.out)⟩⟩
             case rest =>
              as_aux_lemma =>
               clear HC22
               try clear c1
               try clear c2
               try clear p2
               try clear c3
               try clear p5
               try clear q5
               try clear hx5
               try clear p6
               try clear c10
               try clear c10b0
               try clear c10b1
               try clear c11
               try clear c11b0
               try clear c11b1
               try clear c12
               try clear c13
               try clear c14
               try clear c15
               try clear c16
               try clear c16b0
               try clear c17
               try clear c17b0
               try clear c18
               try clear c18b0
               try clear c27
               try clear c27b0
               try clear c27b1
               try clear c27b2
               try clear hx598_0
               try clear p2
               try clear p598
               try clear q598
               obtain ⟨kq, x100_21, rfl, HA, HJ21, HO_12, HO_13, HB⟩ := hcut
               cases kq with
               | zero => exact absurd HA.out (by simp [laws_FnSpells.j3])
               | succ kj21 =>
                have H := HA.out
                clear HA
                simp only [laws_FnSpells.j3] at H
                by_cases c31 : x100_21 = true
                ·
                 subst c31
                 have H1 : (some false) = some r := by rw [if_pos rfl] at H; exact H
                 exact absurd ((Option.some.inj H1).trans hrt_) (by decide)
                ·
                 replace c31 := Bool.eq_false_iff.mpr c31
                 subst c31
                 have H1 : (if t603 = true then ((impl_FillGaps.f kj21 t602).bind fun bt611 => (if bt611.2 = true then ((laws_rInts.f kj21 bt611.1 t602).bind fun t615 => (if t615 = true then ((impl_IsValidSeries.f t602).bind fun t616 => (laws_FnSpells.j4 kj21 l0 t599 t602 (!t616))) else (laws_FnSpells.j4 kj21 l0 t599 t602 true))) else (laws_FnSpells.j4 kj21 l0 t599 t602 true))) else (laws_FnSpells.j6 kj21 l0)) = some r := by rw [if_neg (show ¬ (false = true) by decide)] at H; exact H
                 clear H
                 have H := H1
                 clear H1
                 have HC32 := Aside0.mk H
                 clear H
                 go_upto_if 101 with (fail)
                 repeat (go_quiet (fail); go_upto_if 101 with (fail))
                 go_cut [] (fun wc => ∃ (kq : Nat), Aside0 (laws_FnSpells.j6 kq l0 = some r) ∧ Aside0 (kq ≤ kj21) ∧ Aside0 (Below w.heap.size w wc))
                 case first =>
                  as_aux_lemma =>
                   have H := HC32.out
                   clear HC32
                   by_cases c33 : t603 = true
                   ·
                    subst c33
                    have H1 : ((impl_FillGaps.f kj21 t602).bind fun bt611 => (if bt611.2 = true then ((laws_rInts.f kj21 bt611.1 t602).bind fun t615 => (if t615 = true then ((impl_IsValidSeries.f t602).bind fun t616 => (laws_FnSpells.j4 kj21 l0 t599 t602 (!t616))) else (laws_FnSpells.j4 kj21 l0 t599 t602 true))) else (laws_FnSpells.j4 kj21 l0 t599 t602 true))) = some r := by rw [if_pos rfl] at H; exact H
                    clear H
                    have H := H1
                    clear H1
                    replace H := Option.bind_eq_some_iff.mp H
                    obtain ⟨⟨t611, t612⟩, A340, H⟩ := H
                    replace H : (if t612 = true then ((laws_rInts.f kj21 t611 t602).bind fun t615 => (if t615 = true then ((impl_IsValidSeries.f t602).bind fun t616 => (laws_FnSpells.j4 kj21 l0 t599 t602 (!t616))) else (laws_FnSpells.j4 kj21 l0 t599 t602 true))) else (laws_FnSpells.j4 kj21 l0 t599 t602 true)) = some r := H
                    have A34 := Aside0.mk A340
                    clear A340
                    have HC35 := Aside0.mk H
                    clear H
                    obtain ⟨Ao36, co36, eo36⟩ := Kd.R_slice HO_13.out
                    subst eo36
                    go_upto_region 20 with (first | (go_at_call 32; (with_reducible refine (impl_FillGaps.calls kj21 _ _ t602 t611 t612 _ ?side1 ?side2 A34.out).mono ?_); (case side1 => repeat (first | exact (Kd.R_reads' HO_13.out).2.2 | (with_reducible refine Kd.C_alloc ?_ _) | (with_reducible refine Kd.C_drewN ?_ _) | (with_reducible refine Kd.C_drew ?_))); (case side2 => exact (Kd.R_reads' HO_13.out).2.1); rintro e w37 ⟨v613, rfl, ho0, hb⟩; have n0_ := Aside0.mk (Kd.R_elder' (by (with_reducible repeat (first | apply Kd.R_alloc | apply Kd.R_drewN | apply Kd.R_drew)); exact HO_12.out) (Kd.R_base ho0) hb); have n1_ := Aside0.mk (Kd.R_elder' (by (with_reducible repeat (first | apply Kd.R_alloc | apply Kd.R_drewN | apply Kd.R_drew)); exact HO_13.out) (Kd.R_base ho0) hb); have n2_ := Aside0.mk (Kd.R_lower (Kd.R_new' (Kd.R_new' ho0 (Kd.R_lt (by (with_reducible repeat (first | apply Kd.R_alloc | apply Kd.R_drewN | apply Kd.R_drew)); exact HO_12.out))) (Kd.R_lt (by (with_reducible repeat (first | apply Kd.R_alloc | apply Kd.R_drewN | apply Kd.R_drew)); exact HO_13.out))) (below_size (by repeat (first | (with_reducible first | exact HB.out | apply below_alloc | apply pw_below_drewN | apply below_drew1) | exact HB.out)))); have n3_ := Aside0.mk (below_step (by repeat (first | (with_reducible first | exact HB.out | apply below_alloc | apply pw_below_drewN | apply below_drew1) | exact HB.out)) hb); clear HO_12; clear HO_13; clear HB; have HO_12 := n0_; have HO_13 := n1_; have HO614 := n2_; have HB := n3_; clear n0_ n1_ n2_ n3_; (try clear hb); (try clear hb2); (try clear hk); (try clear hi); (try clear ho0)))
                    repeat (go_quiet (first | (go_at_call 32; (with_reducible refine (impl_FillGaps.calls kj21 _ _ t602 t611 t612 _ ?side1 ?side2 A34.out).mono ?_); (case side1 => repeat (first | exact (Kd.R_reads' HO_13.out).2.2 | (with_reducible refine Kd.C_alloc ?_ _) | (with_reducible refine Kd.C_drewN ?_ _) | (with_reducible refine Kd.C_drew ?_))); (case side2 => exact (Kd.R_reads' HO_13.out).2.1); rintro e w37 ⟨v613, rfl, ho0, hb⟩; have n0_ := Aside0.mk (Kd.R_elder' (by (with_reducible repeat (first | apply Kd.R_alloc | apply Kd.R_drewN | apply Kd.R_drew)); exact HO_12.out) (Kd.R_base ho0) hb); have n1_ := Aside0.mk (Kd.R_elder' (by (with_reducible repeat (first | apply Kd.R_alloc | apply Kd.R_drewN | apply Kd.R_drew)); exact HO_13.out) (Kd.R_base ho0) hb); have n2_ := Aside0.mk (Kd.R_lower (Kd.R_new' (Kd.R_new' ho0 (Kd.R_lt (by (with_reducible repeat (first | apply Kd.R_alloc | apply Kd.R_drewN | apply Kd.R_drew)); exact HO_12.out))) (Kd.R_lt (by (with_reducible repeat (first | apply Kd.R_alloc | apply Kd.R_drewN | apply Kd.R_drew)); exact HO_13.out))) (below_size (by repeat (first | (with_reducible first | exact HB.out | apply below_alloc | apply pw_below_drewN | apply below_drew1) | exact HB.out)))); have n3_ := Aside0.mk (below_step (by repeat (first | (with_reducible first | exact HB.out | apply below_alloc | apply pw_below_drewN | apply below_drew1) | exact HB.out)) hb); clear HO_12; clear HO_13; clear HB; have HO_12 := n0_; have HO_13 := n1_; have HO614 := n2_; have HB := n3_; clear n0_ n1_ n2_ n3_; (try clear hb); (try clear hb2); (try clear hk); (try clear hi); (try clear ho0))); go_upto_region 20 with (first | (go_at_call 32; (with_reducible refine (impl_FillGaps.calls kj21 _ _ t602 t611 t612 _ ?side1 ?side2 A34.out).mono ?_); (case side1 => repeat (first | exact (Kd.R_reads' HO_13.out).2.2 | (with_reducible refine Kd.C_alloc ?_ _) | (with_reducible refine Kd.C_drewN ?_ _) | (with_reducible refine Kd.C_drew ?_))); (case side2 => exact (Kd.R_reads' HO_13.out).2.1); rintro e w37 ⟨v613, rfl, ho0, hb⟩; have n0_ := Aside0.mk (Kd.R_elder' (by (with_reducible repeat (first | apply Kd.R_alloc | apply Kd.R_drewN | apply Kd.R_drew)); exact HO_12.out) (Kd.R_base ho0) hb); have n1_ := Aside0.mk (Kd.R_elder' (by (with_reducible repeat (first | apply Kd.R_alloc | apply Kd.R_drewN | apply Kd.R_drew)); exact HO_13.out) (Kd.R_base ho0) hb); have n2_ := Aside0.mk (Kd.R_lower (Kd.R_new' (Kd.R_new' ho0 (Kd.R_lt (by (with_reducible repeat (first | apply Kd.R_alloc | apply Kd.R_drewN | apply Kd.R_drew)); exact HO_12.out))) (Kd.R_lt (by (with_reducible repeat (first | apply Kd.R_alloc | apply Kd.R_drewN | apply Kd.R_drew)); exact HO_13.out))) (below_size (by repeat (first | (with_reducible first | exact HB.out | apply below_alloc | apply pw_below_drewN | apply below_drew1) | exact HB.out)))); have n3_ := Aside0.mk (below_step (by repeat (first | (with_reducible first | exact HB.out | apply below_alloc | apply pw_below_drewN | apply below_drew1) | exact HB.out)) hb); clear HO_12; clear HO_13; clear HB; have HO_12 := n0_; have HO_13 := n1_; have HO614 := n2_; have HB := n3_; clear n0_ n1_ n2_ n3_; (try clear hb); (try clear hb2); (try clear hk); (try clear hi); (try clear ho0))))
                    (try simp only [Act.put, List.setIfInBounds_toArray, List.set_cons_zero, List.set_cons_succ])
                    go_cut [119] (fun v119 wc => ∃ (kq : Nat) (x119_34 : Bool), v119 = .bool x119_34 ∧ Aside0 (laws_FnSpells.j4 kq l0 t599 t602 x119_34 = some r) ∧ Aside0 (kq ≤ kj21) ∧ Aside0 (Kd.R (Kd.int .i64) 3 wc w.heap.size (fun k_ => some k_ ≠ ((.slice Ao36 t602.length co36) : Value).ownBlock) (.slice Ao24 t599.length co24) t599) ∧ Aside0 (Kd.R (Kd.int .i64) 3 wc w.heap.size (fun k_ => some k_ ≠ ((.slice Ao24 t599.length co24) : Value).ownBlock) (.slice Ao36 t602.length co36) t602) ∧ Aside0 (Below w.heap.size w wc))
                    case first =>
                     as_aux_lemma =>
                      have H := HC35.out
                      clear HC35
                      by_cases c38 : t612 = true
                      ·
                       subst c38
                       have H1 : ((laws_rInts.f kj21 t611 t602).bind fun t615 => (if t615 = true then ((impl_IsValidSeries.f t602).bind fun t616 => (laws_FnSpells.j4 kj21 l0 t599 t602 (!t616))) else (laws_FnSpells.j4 kj21 l0 t599 t602 true))) = some r := by rw [if_pos rfl] at H; exact H
                       clear H
                       have H := H1
                       clear H1
                       replace H := Option.bind_eq_some_iff.mp H
                       obtain ⟨t615, A390, H⟩ := H
                       replace H : (if t615 = true then ((impl_IsValidSeries.f t602).bind fun t616 => (laws_FnSpells.j4 kj21 l0 t599 t602 (!t616))) else (laws_FnSpells.j4 kj21 l0 t599 t602 true)) = some r := H
                       have A39 := Aside0.mk A390
                       clear A390
                       by_cases c40 : t615 = true
                       ·
                        subst c40
                        have H1 : ((impl_IsValidSeries.f t602).bind fun t616 => (laws_FnSpells.j4 kj21 l0 t599 t602 (!t616))) = some r := by rw [if_pos rfl] at H; exact H
                        clear H
                        have H := H1
                        clear H1
                        replace H := Option.bind_eq_some_iff.mp H
                        obtain ⟨t616, A410, H⟩ := H
                        replace H : (laws_FnSpells.j4 kj21 l0 t599 t602 (!t616)) = some r := H
                        have A41 := Aside0.mk A410
                        clear A410
                        have H' := Aside0.mk H
                        clear H
                        obtain ⟨Ao42, co42, eo42⟩ := Kd.R_slice HO614.out
                        subst eo42
                        go_wp2_with (first | (go_at_call 42; (with_reducible refine (laws_rInts.calls kj21 _ _ t611 _ _ t602 true _ ?side1 ?side2 ?side3 ?side4 A39.out).mono ?_); (case side1 => repeat (first | exact (Kd.R_reads' HO614.out).2.2 | (with_reducible refine Kd.C_alloc ?_ _) | (with_reducible refine Kd.C_drewN ?_ _) | (with_reducible refine Kd.C_drew ?_))); (case side2 => exact (Kd.R_reads' HO614.out).2.1); (case side3 => repeat (first | exact (Kd.R_reads' HO_13.out).2.2 | (with_reducible refine Kd.C_alloc ?_ _) | (with_reducible refine Kd.C_drewN ?_ _) | (with_reducible refine Kd.C_drew ?_))); (case side4 => exact (Kd.R_reads' HO_13.out).2.1); rintro e w' ⟨rfl, ⟨nd, rfl⟩⟩; (try first | exact ⟨rfl, _, World.drewN_drewN _ _ _⟩ | exact ⟨rfl, _, Eq.trans (World.drewN_drewN _ _ _) (congrArg (World.drewN _) (Nat.add_assoc _ _ _))⟩)) | (go_at_call 17; (with_reducible refine (impl_IsValidSeries.calls _ _ t602 t616 _ ?side1 ?side2 A41.out).mono ?_); (case side1 => repeat (first | exact (Kd.R_reads' HO_13.out).2.2 | (with_reducible refine Kd.C_alloc ?_ _) | (with_reducible refine Kd.C_drewN ?_ _) | (with_reducible refine Kd.C_drew ?_))); (case side2 => exact (Kd.R_reads' HO_13.out).2.1); rintro e w' ⟨rfl, ⟨nd, rfl⟩⟩; (try first | exact ⟨rfl, _, World.drewN_drewN _ _ _⟩ | exact ⟨rfl, _, Eq.trans (World.drewN_drewN _ _ _) (congrArg (World.drewN _) (Nat.add_assoc _ _ _))⟩)))
                        repeat (go_quiet (first | (go_at_call 42; (with_reducible refine (laws_rInts.calls kj21 _ _ t611 _ _ t602 true _ ?side1 ?side2 ?side3 ?side4 A39.out).mono ?_); (case side1 => repeat (first | exact (Kd.R_reads' HO614.out).2.2 | (with_reducible refine Kd.C_alloc ?_ _) | (with_reducible refine Kd.C_drewN ?_ _) | (with_reducible refine Kd.C_drew ?_))); (case side2 => exact (Kd.R_reads' HO614.out).2.1); (case side3 => repeat (first | exact (Kd.R_reads' HO_13.out).2.2 | (with_reducible refine Kd.C_alloc ?_ _) | (with_reducible refine Kd.C_drewN ?_ _) | (with_reducible refine Kd.C_drew ?_))); (case side4 => exact (Kd.R_reads' HO_13.out).2.1); rintro e w' ⟨rfl, ⟨nd, rfl⟩⟩; (try first | exact ⟨rfl, _, World.drewN_drewN _ _ _⟩ | exact ⟨rfl, _, Eq.trans (World.drewN_drewN _ _ _) (congrArg (World.drewN _) (Nat.add_assoc _ _ _))⟩)) | (go_at_call 17; (with_reducible refine (impl_IsValidSeries.calls _ _ t602 t616 _ ?side1 ?side2 A41.out).mono ?_); (case side1 => repeat (first | exact (Kd.R_reads' HO_13.out).2.2 | (with_reducible refine Kd.C_alloc ?_ _) | (with_reducible refine Kd.C_drewN ?_ _) | (with_reducible refine Kd.C_drew ?_))); (case side2 => exact (Kd.R_reads' HO_13.out).2.1); rintro e w' ⟨rfl, ⟨nd, rfl⟩⟩; (try first | exact ⟨rfl, _, World.drewN_drewN _ _ _⟩ | exact ⟨rfl, _, Eq.trans (World.drewN_drewN _ _ _) (congrArg (World.drewN _) (Nat.add_assoc _ _ _))⟩))); try go_wp2_with (first | (go_at_call 42; (with_reducible refine (laws_rInts.calls kj21 _ _ t611 _ _ t602 true _ ?side1 ?side2 ?side3 ?side4 A39.out).mono ?_); (case side1 => repeat (first | exact (Kd.R_reads' HO614.out).2.2 | (with_reducible refine Kd.C_alloc ?_ _) | (with_reducible refine Kd.C_drewN ?_ _) | (with_reducible refine Kd.C_drew ?_))); (case side2 => exact (Kd.R_reads' HO614.out).2.1); (case side3 => repeat (first | exact (Kd.R_reads' HO_13.out).2.2 | (with_reducible refine Kd.C_alloc ?_ _) | (with_reducible refine Kd.C_drewN ?_ _) | (with_reducible refine Kd.C_drew ?_))); (case side4 => exact (Kd.R_reads' HO_13.out).2.1); rintro e w' ⟨rfl, ⟨nd, rfl⟩⟩; (try first | exact ⟨rfl, _, World.drewN_drewN _ _ _⟩ | exact ⟨rfl, _, Eq.trans (World.drewN_drewN _ _ _) (congrArg (World.drewN _) (Nat.add_assoc _ _ _))⟩)) | (go_at_call 17; (with_reducible refine (impl_IsValidSeries.calls _ _ t602 t616 _ ?side1 ?side2 A41.out).mono ?_); (case side1 => repeat (first | exact (Kd.R_reads' HO_13.out).2.2 | (with_reducible refine Kd.C_alloc ?_ _) | (with_reducible refine Kd.C_drewN ?_ _) | (with_reducible refine Kd.C_drew ?_))); (case side2 => exact (Kd.R_reads' HO_13.out).2.1); rintro e w' ⟨rfl, ⟨nd, rfl⟩⟩; (try first | exact ⟨rfl, _, World.drewN_drewN _ _ _⟩ | exact ⟨rfl, _, Eq.trans (World.drewN_drewN _ _ _) (congrArg (World.drewN _) (Nat.add_assoc _ _ _))⟩))))
                        go_meet
                        case rel => exact ⟨_, (!t616), (by first | rfl | (simp; done) | (simp [*]; done)), H', ⟨by have := HJ6.out; have := HK2.out; have := HJ12.out; have := HJ21.out; first | omega | exact Nat.le_refl _⟩, ⟨by (with_reducible repeat (first | apply Kd.R_alloc | apply Kd.R_drewN | apply Kd.R_drew)); exact Kd.R_mono HO_12.out (fun _ hk => hk.1)⟩, ⟨by (with_reducible repeat (first | apply Kd.R_alloc | apply Kd.R_drewN | apply Kd.R_drew)); exact Kd.R_mono HO_13.out (fun _ hk => hk.1)⟩, ⟨by repeat (first | (with_reducible first | exact HB.out | apply below_alloc | apply pw_below_drewN | apply below_drew1) | exact HB.out)⟩⟩
                       ·
                        replace c40 := Bool.eq_false_iff.mpr c40
                        subst c40
                        have H1 : (laws_FnSpells.j4 kj21 l0 t599 t602 true) = some r := by rw [if_neg (show ¬ (false = true) by decide)] at H; exact H
                        clear H
                        have H := H1
                        clear H1
                        have H' := Aside0.mk H
                        clear H
                        obtain ⟨Ao43, co43, eo43⟩ := Kd.R_slice HO614.out
                        subst eo43
                        go_wp2_with (first | (go_at_call 42; (with_reducible refine (laws_rInts.calls kj21 _ _ t611 _ _ t602 false _ ?side1 ?side2 ?side3 ?side4 A39.out).mono ?_); (case side1 => repeat (first | exact (Kd.R_reads' HO614.out).2.2 | (with_reducible refine Kd.C_alloc ?_ _) | (with_reducible refine Kd.C_drewN ?_ _) | (with_reducible refine Kd.C_drew ?_))); (case side2 => exact (Kd.R_reads' HO614.out).2.1); (case side3 => repeat (first | exact (Kd.R_reads' HO_13.out).2.2 | (with_reducible refine Kd.C_alloc ?_ _) | (with_reducible refine Kd.C_drewN ?_ _) | (with_reducible refine Kd.C_drew ?_))); (case side4 => exact (Kd.R_reads' HO_13.out).2.1); rintro e w' ⟨rfl, ⟨nd, rfl⟩⟩; (try first | exact ⟨rfl, _, World.drewN_drewN _ _ _⟩ | exact ⟨rfl, _, Eq.trans (World.drewN_drewN _ _ _) (congrArg (World.drewN _) (Nat.add_assoc _ _ _))⟩)))
                        repeat (go_quiet (first | (go_at_call 42; (with_reducible refine (laws_rInts.calls kj21 _ _ t611 _ _ t602 false _ ?side1 ?side2 ?side3 ?side4 A39.out).mono ?_); (case side1 => repeat (first | exact (Kd.R_reads' HO614.out).2.2 | (with_reducible refine Kd.C_alloc ?_ _) | (with_reducible refine Kd.C_drewN ?_ _) | (with_reducible refine Kd.C_drew ?_))); (case side2 => exact (Kd.R_reads' HO614.out).2.1); (case side3 => repeat (first | exact (Kd.R_reads' HO_13.out).2.2 | (with_reducible refine Kd.C_alloc ?_ _) | (with_reducible refine Kd.C_drewN ?_ _) | (with_reducible refine Kd.C_drew ?_))); (case side4 => exact (Kd.R_reads' HO_13.out).2.1); rintro e w' ⟨rfl, ⟨nd, rfl⟩⟩; (try first | exact ⟨rfl, _, World.drewN_drewN _ _ _⟩ | exact ⟨rfl, _, Eq.trans (World.drewN_drewN _ _ _) (congrArg (World.drewN _) (Nat.add_assoc _ _ _))⟩))); try go_wp2_with (first | (go_at_call 42; (with_reducible refine (laws_rInts.calls kj21 _ _ t611 _ _ t602 false _ ?side1 ?side2 ?side3 ?side4 A39.out).mono ?_); (case side1 => repeat (first | exact (Kd.R_reads' HO614.out).2.2 | (with_reducible refine Kd.C_alloc ?_ _) | (with_reducible refine Kd.C_drewN ?_ _) | (with_reducible refine Kd.C_drew ?_))); (case side2 => exact (Kd.R_reads' HO614.out).2.1); (case side3 => repeat (first | exact (Kd.R_reads' HO_13.out).2.2 | (with_reducible refine Kd.C_alloc ?_ _) | (with_reducible refine Kd.C_drewN ?_ _) | (with_reducible refine Kd.C_drew ?_))); (case side4 => exact (Kd.R_reads' HO_13.out).2.1); rintro e w' ⟨rfl, ⟨nd, rfl⟩⟩; (try first | exact ⟨rfl, _, World.drewN_drewN _ _ _⟩ | exact ⟨rfl, _, Eq.trans (World.drewN_drewN _ _ _) (congrArg (World.drewN _) (Nat.add_assoc _ _ _))⟩))))
                        go_meet
                        case rel => exact ⟨_, (true), (by first | rfl | (simp; done) | (simp [*]; done)), H', ⟨by have := HJ6.out; have := HK2.out; have := HJ12.out; have := HJ21.out; first | omega | exact Nat.le_refl _⟩, ⟨by (with_reducible repeat (first | apply Kd.R_alloc | apply Kd.R_drewN | apply Kd.R_drew)); exact Kd.R_mono HO_12.out (fun _ hk => hk.1)⟩, ⟨by (with_reducible repeat (first | apply Kd.R_alloc | apply Kd.R_drewN | apply Kd.R_drew)); exact Kd.R_mono HO_13.out (fun _ hk => hk.1)⟩, ⟨by repeat (first | (with_reducible first | exact HB.out | apply below_alloc | apply pw_below_drewN | apply below_drew1) | exact HB.out)⟩⟩
                      ·
                       replace c38 := Bool.eq_false_iff.mpr c38
                       subst c38
                       have H1 : (laws_FnSpells.j4 kj21 l0 t599 t602 true) = some r := by rw [if_neg (show ¬ (false = true) by decide)] at H; exact H
                       clear H
                       have H := H1
                       clear H1
                       have H' := Aside0.mk H
                       clear H
                       go_wp2
                       repeat (go_quiet (fail); try go_wp2)
                       go_meet
                       case rel => exact ⟨_, (true), (by first | rfl | (simp; done) | (simp [*]; done)), H', ⟨by have := HJ6.out; have := HK2.out; have := HJ12.out; have := HJ21.out; first | omega | exact Nat.le_refl _⟩, ⟨by (with_reducible repeat (first | apply Kd.R_alloc | apply Kd.R_drewN | apply Kd.R_drew)); exact Kd.R_mono HO_12.out (fun _ hk => hk.1)⟩, ⟨by (with_reducible repeat (first | apply Kd.R_alloc | apply Kd.R_drewN | apply Kd.R_drew)); exact Kd.R_mono HO_13.out (fun _ hk => hk.1)⟩, ⟨by repeat (first | (with_reducible first | exact HB.out | apply below_alloc | apply pw_below_drewN | apply below_drew1) | exact HB.out)⟩⟩
                    case rest =>
                     as_aux_lemma =>
                      clear HC35
                      try clear c1
                      try clear c2
                      try clear p2
                      try clear c3
                      try clear c4
                      try clear p5
                      try clear q5
                      try clear hx5
                      try clear p6
                      try clear c10
                      try clear c10b0
                      try clear c10b1
                      try clear c11
                      try clear c11b0
                      try clear c11b1
                      try clear c12
                      try clear c13
                      try clear c14
                      try clear c15
                      try clear c16
                      try clear c16b0
                      try clear c17
                      try clear c17b0
                      try clear c18
                      try clear c18b0
                      try clear c27
                      try clear c27b0
                      try clear c27b1
                      try clear c27b2
                      try clear c31
                      try clear c33
                      try clear c38
                      try clear c40
                      try clear hx598_0
                      try clear p2
                      try clear p5
                      try clear p598
                      try clear p6
                      try clear q5
                      try clear q598
                      obtain ⟨kq, x119_34, rfl, HA, HJ34, HO_12, HO_13, HB⟩ := hcut
                      cases kq with
                      | zero => exact absurd HA.out (by simp [laws_FnSpells.j4])
                      | succ kj34 =>
                       have H := HA.out
                       clear HA
                       simp only [laws_FnSpells.j4] at H
                       by_cases c44 : x119_34 = true
                       ·
                        subst c44
                        have H1 : (some false) = some r := by rw [if_pos rfl] at H; exact H
                        exact absurd ((Option.some.inj H1).trans hrt_) (by decide)
                       ·
                        replace c44 := Bool.eq_false_iff.mpr c44
                        subst c44
                        have H1 : (laws_FnSpells.l1 kj34 l0 t599 t602 0) = some r := by rw [if_neg (show ¬ (false = true) by decide)] at H; exact H
                        clear H
                        have H := H1
                        clear H1
                        have H' := Aside0.mk H
                        clear H
                        go_wp2
                        repeat (go_quiet (fail); try go_wp2)
                        go_loopg [19] kj34 (fun kq v19 w' => ∃ (x19_6 : Int), v19 = .int .i64 x19_6 ∧ Aside0 (laws_FnSpells.l1 kq l0 t599 t602 x19_6 = some r) ∧ Aside0 (kq ≤ kj34) ∧ Aside0 (Kd.R (Kd.int .i64) 3 w' w.heap.size (fun k_ => some k_ ≠ ((.slice Ao36 t602.length co36) : Value).ownBlock) (.slice Ao24 t599.length co24) t599) ∧ Aside0 (Kd.R (Kd.int .i64) 3 w' w.heap.size (fun k_ => some k_ ≠ ((.slice Ao24 t599.length co24) : Value).ownBlock) (.slice Ao36 t602.length co36) t602) ∧ Aside0 (Below w.heap.size w w'))
                        case atStart => exact ⟨(0), (by first | rfl | (simp; done) | (simp [*]; done)), H', ⟨Nat.le_refl _⟩, ⟨by (with_reducible repeat (first | apply Kd.R_alloc | apply Kd.R_drewN | apply Kd.R_drew)); exact HO_12.out⟩, ⟨by (with_reducible repeat (first | apply Kd.R_alloc | apply Kd.R_drewN | apply Kd.R_drew)); exact HO_13.out⟩, ⟨by repeat (first | (with_reducible first | exact HB.out | apply below_alloc | apply pw_below_drewN | apply below_drew1) | exact HB.out)⟩⟩
                        case round =>
                         as_aux_lemma =>
                          clear H'
                          try clear c1
                          try clear c2
                          try clear p2
                          try clear c3
                          try clear c4
                          try clear p5
                          try clear q5
                          try clear hx5
                          try clear p6
                          try clear c10
                          try clear c10b0
                          try clear c10b1
                          try clear c11
                          try clear c11b0
                          try clear c11b1
                          try clear c12
                          try clear c13
                          try clear c14
                          try clear c15
                          try clear c16
                          try clear c16b0
                          try clear c17
                          try clear c17b0
                          try clear c18
                          try clear c18b0
                          try clear c27
                          try clear c27b0
                          try clear c27b1
                          try clear c27b2
                          try clear c31
                          try clear c33
                          try clear c38
                          try clear c40
                          try clear c44
                          try clear hx598_0
                          try clear p2
                          try clear p5
                          try clear p598
                          try clear p6
                          try clear q5
                          try clear q598
                          obtain ⟨x19_6, rfl, HA, HK6, HO_12, HO_13, HB⟩ := hrel
                          cases gk with
                          | zero => exact absurd HA.out (by simp [laws_FnSpells.l1])
                          | succ k6 =>
                           have H := HA.out
                           clear HA
                           simp only [laws_FnSpells.l1] at H
                           by_cases c45 : x19_6 < (t599.length : Int)
                           ·
                            rw [if_pos c45] at H
                            have c45b0 : decide (x19_6 < (t599.length : Int)) = true := decide_eq_true c45
                            clear c45
                            by_cases c46 : 0 ≤ x19_6
                            ·
                             rw [if_pos c46] at H
                             have c46b0 : decide (0 ≤ x19_6) = true := decide_eq_true c46
                             clear c46
                             by_cases c47 : (rd t599 x19_6) = (-9999)
                             ·
                              rw [if_pos c47] at H
                              have c47b0 : ((rd t599 x19_6) == (-9999)) = true := beq_iff_eq.mpr c47
                              have c47b1 : ((rd t599 x19_6) != (-9999)) = false := bne_eq_false_iff_eq.mpr c47
                              clear c47
                              have H' := Aside0.mk H
                              clear H
                              have p617 : 0 ≤ (x19_6 : Int) := of_decide_eq_true (by first | (with_reducible assumption) | assumption)
                              have q617 : x19_6 < (t599.length : Int) := of_decide_eq_true (by first | (with_reducible assumption) | assumption)
                              obtain ⟨ad617, e617, hx617_0⟩ := Kd.at_int (Kd.R_reads' HO_12.out).2.2 x19_6 p617 q617
                              cases e617
                              replace p617 := eq_true p617
                              replace q617 := eq_true q617
                              go_wp2
                              repeat (go_quiet (fail); try go_wp2)
                              go_roundg k6
                              case measure => have := HJ6.out; have := HK2.out; have := HJ12.out; have := HJ21.out; have := HJ34.out; have := HK6.out; omega
                              case rel => exact ⟨(wrap64 (x19_6 + 1)), (by first | rfl | (simp; done) | (simp [*]; done)), H', ⟨by have := HJ6.out; have := HK2.out; have := HJ12.out; have := HJ21.out; have := HJ34.out; have := HK6.out; omega⟩, ⟨by (with_reducible repeat (first | apply Kd.R_alloc | apply Kd.R_drewN | apply Kd.R_drew)); exact HO_12.out⟩, ⟨by (with_reducible repeat (first | apply Kd.R_alloc | apply Kd.R_drewN | apply Kd.R_drew)); exact HO_13.out⟩, ⟨by repeat (first | (with_reducible first | exact HB.out | apply below_alloc | apply pw_below_drewN | apply below_drew1) | exact HB.out)⟩⟩
                             ·
                              rw [if_neg c47] at H
                              have c47b0 : ((rd t599 x19_6) == (-9999)) = false := beq_eq_false_iff_ne.mpr c47
                              have c47b1 : ((rd t599 x19_6) != (-9999)) = true := bne_iff_ne.mpr c47
                              by_cases c48 : x19_6 < (t602.length : Int)
                              ·
                               rw [if_pos c48] at H
                               have c48b0 : decide (x19_6 < (t602.length : Int)) = true := decide_eq_true c48
                               clear c48
                               by_cases c49 : (rd t602 x19_6) = (rd t599 x19_6)
                               ·
                                rw [if_pos c49] at H
                                have c49b0 : ((rd t602 x19_6) == (rd t599 x19_6)) = true := beq_iff_eq.mpr c49
                                have c49b1 : ((rd t602 x19_6) != (rd t599 x19_6)) = false := bne_eq_false_iff_eq.mpr c49
                                clear c49
                                have H' := Aside0.mk H
                                clear H
                                have p617 : 0 ≤ (x19_6 : Int) := of_decide_eq_true (by first | (with_reducible assumption) | assumption)
                                have q617 : x19_6 < (t599.length : Int) := of_decide_eq_true (by first | (with_reducible assumption) | assumption)
                                obtain ⟨ad617, e617, hx617_0⟩ := Kd.at_int (Kd.R_reads' HO_12.out).2.2 x19_6 p617 q617
                                cases e617
                                replace p617 := eq_true p617
                                replace q617 := eq_true q617
                                have p618 : 0 ≤ (x19_6 : Int) := of_decide_eq_true (by first | (with_reducible assumption) | assumption)
                                have q618 : x19_6 < (t602.length : Int) := of_decide_eq_true (by first | (with_reducible assumption) | assumption)
                                obtain ⟨ad618, e618, hx618_0⟩ := Kd.at_int (Kd.R_reads' HO_13.out).2.2 x19_6 p618 q618
                                cases e618
                                replace p618 := eq_true p618
                                replace q618 := eq_true q618
                                have p619 : 0 ≤ (x19_6 : Int) := of_decide_eq_true (by first | (with_reducible assumption) | assumption)
                                have q619 : x19_6 < (t599.length : Int) := of_decide_eq_true (by first | (with_reducible assumption) | assumption)
                                obtain ⟨ad619, e619, hx619_0⟩ := Kd.at_int (Kd.R_reads' HO_12.out).2.2 x19_6 p619 q619
                                obtain rfl : ad617 = ad619 := (by injection e619)
                                replace p619 := eq_true p619
                                replace q619 := eq_true q619
                                go_wp2
                                repeat (go_quiet (fail); try go_wp2)
                                go_roundg k6
                                case measure => have := HJ6.out; have := HK2.out; have := HJ12.out; have := HJ21.out; have := HJ34.out; have := HK6.out; omega
                                case rel => exact ⟨(wrap64 (x19_6 + 1)), (by first | rfl | (simp; done) | (simp [*]; done)), H', ⟨by have := HJ6.out; have := HK2.out; have := HJ12.out; have := HJ21.out; have := HJ34.out; have := HK6.out; omega⟩, ⟨by (with_reducible repeat (first | apply Kd.R_alloc | apply Kd.R_drewN | apply Kd.R_drew)); exact HO_12.out⟩, ⟨by (with_reducible repeat (first | apply Kd.R_alloc | apply Kd.R_drewN | apply Kd.R_drew)); exact HO_13.out⟩, ⟨by repeat (first | (with_reducible first | exact HB.out | apply below_alloc | apply pw_below_drewN | apply below_drew1) | exact HB.out)⟩⟩
                               ·
                                rw [if_neg c49] at H
                                have c49b0 : ((rd t602 x19_6) == (rd t599 x19_6)) = false := beq_eq_false_iff_ne.mpr c49
                                have c49b1 : ((rd t602 x19_6) != (rd t599 x19_6)) = true := bne_iff_ne.mpr c49
                                exact absurd ((Option.some.inj H).trans hrt_) (by decide)
                              ·
                               rw [if_neg c48] at H
                               exact absurd H (by simp)
                            ·
                             rw [if_neg c46] at H
                             exact absurd H (by simp)
                           ·
                            rw [if_neg c45] at H
                            have c45b0 : decide (x19_6 < (t599.length : Int)) = false := decide_eq_false c45
                            clear c45
                            have H' := Aside0.mk H
                            clear H
                            go_wp2
                            repeat (go_quiet (fail); try go_wp2)
                            go_meet
                            case rel => exact ⟨_, H', ⟨by have := HJ6.out; have := HK2.out; have := HJ12.out; have := HJ21.out; have := HJ34.out; have := HK6.out; first | omega | exact Nat.le_refl _⟩, ⟨by repeat (first | (with_reducible first | exact HB.out | apply below_alloc | apply pw_below_drewN | apply below_drew1) | exact HB.out)⟩⟩
                   ·
                    replace c33 := Bool.eq_false_iff.mpr c33
                    subst c33
                    have H1 : (laws_FnSpells.j6 kj21 l0) = some r := by rw [if_neg (show ¬ (false = true) by decide)] at H; exact H
                    clear H
                    have H := H1
                    clear H1
                    have H' := Aside0.mk H
                    clear H
                    go_wp2
                    repeat (go_quiet (fail); try go_wp2)
                    go_meet
                    case rel => exact ⟨_, H', ⟨by have := HJ6.out; have := HK2.out; have := HJ12.out; have := HJ21.out; first | omega | exact Nat.le_refl _⟩, ⟨by repeat (first | (with_reducible first | exact HB.out | apply below_alloc | apply pw_below_drewN | apply below_drew1) | exact HB.out)⟩⟩
                 case rest =>
                  as_aux_lemma =>
                   clear HC32
                   try clear c1
                   try clear c2
                   try clear p2
                   try clear c3
                   try clear c4
                   try clear p5
                   try clear q5
                   try clear hx5
                   try clear p6
                   try clear q6
                   try clear hx6
                   try clear c10
                   try clear c10b0
                   try clear c10b1
                   try clear c11
                   try clear c11b0
                   try clear c11b1
                   try clear c12
                   try clear c13
                   try clear c14
                   try clear c15
                   try clear c16
                   try clear c16b0
                   try clear c17
                   try clear c17b0
                   try clear c18
                   try clear c18b0
                   try clear c27
                   try clear c27b0
                   try clear c27b1
                   try clear c27b2
                   try clear c31
                   try clear c33
                   try clear c38
                   try clear c40
                   try clear c44
                   try clear c45
                   try clear c45b0
                   try clear c46
                   try clear c46b0
                   try clear c47
                   try clear c47b0
                   try clear c47b1
                   try clear c48
                   try clear c48b0
                   try clear c49
                   try clear c49b0
                   try clear c49b1
                   try clear hx598_0
                   try clear hx617_0
                   try clear hx618_0
                   try clear hx619_0
                   try clear p2
                   try clear p5
                   try clear p598
                   try clear p6
                   try clear p617
                   try clear p618
                   try clear p619
                   try clear q5
                   try clear q598
                   try clear q617
                   try clear q618
                   try clear q619
                   obtain ⟨kq, HA, HJ31, HB⟩ := hcut
                   cases kq with
                   | zero => exact absurd HA.out (by simp [laws_FnSpells.j6])
                   | succ kj31 =>
                    have H := HA.out
                    clear HA
                    simp only [laws_FnSpells.j6] at H
                    replace H := Option.bind_eq_some_iff.mp H
                    obtain ⟨t620, A500, H⟩ := H
                    replace H : ((impl_TenDayMeans.f kj31 t620).bind fun bt623 => ((spec_TenDayMeans.f kj31 t620).bind fun bt627 => (if (bt623.2 != bt627.2) = true then (laws_FnSpells.j7 kj31 l0 true) else ((laws_rInts.f kj31 bt623.1 bt627.1).bind fun t631 => (if t631 = true then (if bt623.2 = true then (laws_FnSpells.j7 kj31 l0 ((bt623.1.length : Int) != (wrap64 (Int.tdiv (wrap64 ((t620.length : Int) + 9)) 10)))) else (laws_FnSpells.j7 kj31 l0 false)) else (laws_FnSpells.j7 kj31 l0 true)))))) = some r := H
                    have A50 := Aside0.mk A500
                    clear A500
                    replace H := Option.bind_eq_some_iff.mp H
                    obtain ⟨⟨t623, t624⟩, A510, H⟩ := H
                    replace H : ((spec_TenDayMeans.f kj31 t620).bind fun bt627 => (if (t624 != bt627.2) = true then (laws_FnSpells.j7 kj31 l0 true) else ((laws_rInts.f kj31 t623 bt627.1).bind fun t631 => (if t631 = true then (if t624 = true then (laws_FnSpells.j7 kj31 l0 ((t623.length : Int) != (wrap64 (Int.tdiv (wrap64 ((t620.length : Int) + 9)) 10)))) else (laws_FnSpells.j7 kj31 l0 false)) else (laws_FnSpells.j7 kj31 l0 true))))) = some r := H
                    have A51 := Aside0.mk A510
                    clear A510
                    replace H := Option.bind_eq_some_iff.mp H
                    obtain ⟨⟨t627, t628⟩, A520, H⟩ := H
                    replace H : (if (t624 != t628) = true then (laws_FnSpells.j7 kj31 l0 true) else ((laws_rInts.f kj31 t623 t627).bind fun t631 => (if t631 = true then (if t624 = true then (laws_FnSpells.j7 kj31 l0 ((t623.length : Int) != (wrap64 (Int.tdiv (wrap64 ((t620.length : Int) + 9)) 10)))) else (laws_FnSpells.j7 kj31 l0 false)) else (laws_FnSpells.j7 kj31 l0 true)))) = some r := H
                    have A52 := Aside0.mk A520
                    clear A520
                    have HC53 := Aside0.mk H
                    clear H
                    go_upto_region 30 with (first | (go_at_call 43; (with_reducible refine (spec_DrawTenDayMeans.calls kj31 _ _ l0 t620 _ ?side1 ?side2 A50.out).mono ?_); (case side1 => repeat (first | exact (Kd.C_below HR0.out HB.out) | (with_reducible refine Kd.C_alloc ?_ _) | (with_reducible refine Kd.C_drewN ?_ _) | (with_reducible refine Kd.C_drew ?_))); (case side2 => exact HC0.out); rintro e w54 ⟨v621, rfl, ho0, hb⟩; have n0_ := Aside0.mk (Kd.R_lower ho0 (below_size (by repeat (first | (with_reducible first | exact HB.out | apply below_alloc | apply pw_below_drewN | apply below_drew1) | exact HB.out)))); have n1_ := Aside0.mk (below_step (by repeat (first | (with_reducible first | exact HB.out | apply below_alloc | apply pw_below_drewN | apply below_drew1) | exact HB.out)) hb); clear HB; have HO622 := n0_; have HB := n1_; clear n0_ n1_; (try clear hb); (try clear hb2); (try clear hk); (try clear hi); (try clear ho0); obtain ⟨Ao55, co55, eo55⟩ := Kd.R_slice HO622.out; subst eo55) | (go_at_call 38; (with_reducible refine (impl_TenDayMeans.calls kj31 _ _ t620 t623 t624 _ ?side1 ?side2 A51.out).mono ?_); (case side1 => repeat (first | exact (Kd.R_reads' HO622.out).2.2 | (with_reducible refine Kd.C_alloc ?_ _) | (with_reducible refine Kd.C_drewN ?_ _) | (with_reducible refine Kd.C_drew ?_))); (case side2 => exact (Kd.R_reads' HO622.out).2.1); rintro e w56 ⟨v625, rfl, ho0, hb⟩; have n0_ := Aside0.mk (Kd.R_elder' (by (with_reducible repeat (first | apply Kd.R_alloc | apply Kd.R_drewN | apply Kd.R_drew)); exact HO622.out) (Kd.R_base ho0) hb); have n1_ := Aside0.mk (Kd.R_lower (Kd.R_new' ho0 (Kd.R_lt (by (with_reducible repeat (first | apply Kd.R_alloc | apply Kd.R_drewN | apply Kd.R_drew)); exact HO622.out))) (below_size (by repeat (first | (with_reducible first | exact HB.out | apply below_alloc | apply pw_below_drewN | apply below_drew1) | exact HB.out)))); have n2_ := Aside0.mk (below_step (by repeat (first | (with_reducible first | exact HB.out | apply below_alloc | apply pw_below_drewN | apply below_drew1) | exact HB.out)) hb); clear HO622; clear HB; have HO622 := n0_; have HO626 := n1_; have HB := n2_; clear n0_ n1_ n2_; (try clear hb); (try clear hb2); (try clear hk); (try clear hi); (try clear ho0)) | (go_at_call 37; (with_reducible refine (spec_TenDayMeans.calls kj31 _ _ t620 t627 t628 _ ?side1 ?side2 A52.out).mono ?_); (case side1 => repeat (first | exact (Kd.R_reads' HO622.out).2.2 | (with_reducible refine Kd.C_alloc ?_ _) | (with_reducible refine Kd.C_drewN ?_ _) | (with_reducible refine Kd.C_drew ?_))); (case side2 => exact (Kd.R_reads' HO622.out).2.1); rintro e w57 ⟨v629, rfl, ho0, hb⟩; have n0_ := Aside0.mk (Kd.R_elder' (by (with_reducible repeat (first | apply Kd.R_alloc | apply Kd.R_drewN | apply Kd.R_drew)); exact HO622.out) (Kd.R_base ho0) hb); have n1_ := Aside0.mk (Kd.R_elder' (by (with_reducible repeat (first | apply Kd.R_alloc | apply Kd.R_drewN | apply Kd.R_drew)); exact HO626.out) (Kd.R_base ho0) hb); have n2_ := Aside0.mk (Kd.R_lower (Kd.R_new' (Kd.R_new' ho0 (Kd.R_lt (by (with_reducible repeat (first | apply Kd.R_alloc | apply Kd.R_drewN | apply Kd.R_drew)); exact HO622.out))) (Kd.R_lt (by (with_reducible repeat (first | apply Kd.R_alloc | apply Kd.R_drewN | apply Kd.R_drew)); exact HO626.out))) (below_size (by repeat (first | (with_reducible first | exact HB.out | apply below_alloc | apply pw_below_drewN | apply below_drew1) | exact HB.out)))); have n3_ := Aside0.mk (below_step (by repeat (first | (with_reducible first | exact HB.out | apply below_alloc | apply pw_below_drewN | apply below_drew1) | exact HB.out)) hb); clear HO622; clear HO626; clear HB; have HO622 := n0_; have HO626 := n1_; have HO630 := n2_; have HB := n3_; clear n0_ n1_ n2_ n3_; (try clear hb); (try clear hb2); (try clear hk); (try clear hi); (try clear ho0)))
                    repeat (go_quiet (first | (go_at_call 43; (with_reducible refine (spec_DrawTenDayMeans.calls kj31 _ _ l0 t620 _ ?side1 ?side2 A50.out).mono ?_); (case side1 => repeat (first | exact (Kd.C_below HR0.out HB.out) | (with_reducible refine Kd.C_alloc ?_ _) | (with_reducible refine Kd.C_drewN ?_ _) | (with_reducible refine Kd.C_drew ?_))); (case side2 => exact HC0.out); rintro e w54 ⟨v621, rfl, ho0, hb⟩; have n0_ := Aside0.mk (Kd.R_lower ho0 (below_size (by repeat (first | (with_reducible first | exact HB.out | apply below_alloc | apply pw_below_drewN | apply below_drew1) | exact HB.out)))); have n1_ := Aside0.mk (below_step (by repeat (first | (with_reducible first | exact HB.out | apply below_alloc | apply pw_below_drewN | apply below_drew1) | exact HB.out)) hb); clear HB; have HO622 := n0_; have HB := n1_; clear n0_ n1_; (try clear hb); (try clear hb2); (try clear hk); (try clear hi); (try clear ho0); obtain ⟨Ao55, co55, eo55⟩ := Kd.R_slice HO622.out; subst eo55) | (go_at_call 38; (with_reducible refine (impl_TenDayMeans.calls kj31 _ _ t620 t623 t624 _ ?side1 ?side2 A51.out).mono ?_); (case side1 => repeat (first | exact (Kd.R_reads' HO622.out).2.2 | (with_reducible refine Kd.C_alloc ?_ _) | (with_reducible refine Kd.C_drewN ?_ _) | (with_reducible refine Kd.C_drew ?_))); (case side2 => exact (Kd.R_reads' HO622.out).2.1); rintro e w56 ⟨v625, rfl, ho0, hb⟩; have n0_ := Aside0.mk (Kd.R_elder' (by (with_reducible repeat (first | apply Kd.R_alloc | apply Kd.R_drewN | apply Kd.R_drew)); exact HO622.out) (Kd.R_base ho0) hb); have n1_ := Aside0.mk (Kd.R_lower (Kd.R_new' ho0 (Kd.R_lt (by (with_reducible repeat (first | apply Kd.R_alloc | apply Kd.R_drewN | apply Kd.R_drew)); exact HO622.out))) (below_size (by repeat (first | (with_reducible first | exact HB.out | apply below_alloc | apply pw_below_drewN | apply below_drew1) | exact HB.out)))); have n2_ := Aside0.mk (below_step (by repeat (first | (with_reducible first | exact HB.out | apply below_alloc | apply pw_below_drewN | apply below_drew1) | exact HB.out)) hb); clear HO622; clear HB; have HO622 := n0_; have HO626 := n1_; have HB := n2_; clear n0_ n1_ n2_; (try clear hb); (try clear hb2); (try clear hk); (try clear hi); (try clear ho0)) | (go_at_call 37; (with_reducible refine (spec_TenDayMeans.calls kj31 _ _ t620 t627 t628 _ ?side1 ?side2 A52.out).mono ?_); (case side1 => repeat (first | exact (Kd.R_reads' HO622.out).2.2 | (with_reducible refine Kd.C_alloc ?_ _) | (with_reducible refine Kd.C_drewN ?_ _) | (with_reducible refine Kd.C_drew ?_))); (case side2 => exact (Kd.R_reads' HO622.out).2.1); rintro e w57 ⟨v629, rfl, ho0, hb⟩; have n0_ := Aside0.mk (Kd.R_elder' (by (with_reducible repeat (first | apply Kd.R_alloc | apply Kd.R_drewN | apply Kd.R_drew)); exact HO622.out) (Kd.R_base ho0) hb); have n1_ := Aside0.mk (Kd.R_elder' (by (with_reducible repeat (first | apply Kd.R_alloc | apply Kd.R_drewN | apply Kd.R_drew)); exact HO626.out) (Kd.R_base ho0) hb); have n2_ := Aside0.mk (Kd.R_lower (Kd.R_new' (Kd.R_new' ho0 (Kd.R_lt (by (with_reducible repeat (first | apply Kd.R_alloc | apply Kd.R_drewN | apply Kd.R_drew)); exact HO622.out))) (Kd.R_lt (by (with_reducible repeat (first | apply Kd.R_alloc | apply Kd.R_drewN | apply Kd.R_drew)); exact HO626.out))) (below_size (by repeat (first | (with_reducible first | exact HB.out | apply below_alloc | apply pw_below_drewN | apply below_drew1) | exact HB.out)))); have n3_ := Aside0.mk (below_step (by repeat (first | (with_reducible first | exact HB.out | apply below_alloc | apply pw_below_drewN | apply below_drew1) | exact HB.out)) hb); clear HO622; clear HO626; clear HB; have HO622 := n0_; have HO626 := n1_; have HO630 := n2_; have HB := n3_; clear n0_ n1_ n2_ n3_; (try clear hb); (try clear hb2); (try clear hk); (try clear hi); (try clear ho0))); go_upto_region 30 with (first | (go_at_call 43; (with_reducible refine (spec_DrawTenDayMeans.calls kj31 _ _ l0 t620 _ ?side1 ?side2 A50.out).mono ?_); (case side1 => repeat (first | exact (Kd.C_below HR0.out HB.out) | (with_reducible refine Kd.C_alloc ?_ _) | (with_reducible refine Kd.C_drewN ?_ _) | (with_reducible refine Kd.C_drew ?_))); (case side2 => exact HC0.out); rintro e w54 ⟨v621, rfl, ho0, hb⟩; have n0_ := Aside0.mk (Kd.R_lower ho0 (below_size (by repeat (first | (with_reducible first | exact HB.out | apply below_alloc | apply pw_below_drewN | apply below_drew1) | exact HB.out)))); have n1_ := Aside0.mk (below_step (by repeat (first | (with_reducible first | exact HB.out | apply below_alloc | apply pw_below_drewN | apply below_drew1) | exact HB.out)) hb); clear HB; have HO622 := n0_; have HB := n1_; clear n0_ n1_; (try clear hb); (try clear hb2); (try clear hk); (try clear hi); (try clear ho0); obtain ⟨Ao55, co55, eo55⟩ := Kd.R_slice HO622.out; subst eo55) | (go_at_call 38; (with_reducible refine (impl_TenDayMeans.calls kj31 _ _ t620 t623 t624 _ ?side1 ?side2 A51.out).mono ?_); (case side1 => repeat (first | exact (Kd.R_reads' HO622.out).2.2 | (with_reducible refine Kd.C_alloc ?_ _) | (with_reducible refine Kd.C_drewN ?_ _) | (with_reducible refine Kd.C_drew ?_))); (case side2 => exact (Kd.R_reads' HO622.out).2.1); rintro e w56 ⟨v625, rfl, ho0, hb⟩; have n0_ := Aside0.mk (Kd.R_elder' (by (with_reducible repeat (first | apply Kd.R_alloc | apply Kd.R_drewN | apply Kd.R_drew)); exact HO622.out) (Kd.R_base ho0) hb); have n1_ := Aside0.mk (Kd.R_lower (Kd.R_new' ho0 (Kd.R_lt (by (with_reducible repeat (first | apply Kd.R_alloc | apply Kd.R_drewN | apply Kd.R_drew)); exact HO622.out))) (below_size (by repeat (first | (with_reducible first | exact HB.out | apply below_alloc | apply pw_below_drewN | apply below_drew1) | exact HB.out)))); have n2_ := Aside0.mk (below_step (by repeat (first | (with_reducible first | exact HB.out | apply below_alloc | apply pw_below_drewN | apply below_drew1) | exact HB.out)) hb); clear HO622; clear HB; have HO622 := n0_; have HO626 := n1_; have HB := n2_; clear n0_ n1_ n2_; (try clear hb); (try clear hb2); (try clear hk); (try clear hi); (try clear ho0)) | (go_at_call 37; (with_reducible refine (spec_TenDayMeans.calls kj31 _ _ t620 t627 t628 _ ?side1 ?side2 A52.out).mono ?_); (case side1 => repeat (first | exact (Kd.R_reads' HO622.out).2.2 | (with_reducible refine Kd.C_alloc ?_ _) | (with_reducible refine Kd.C_drewN ?_ _) | (with_reducible refine Kd.C_drew ?_))); (case side2 => exact (Kd.R_reads' HO622.out).2.1); rintro e w57 ⟨v629, rfl, ho0, hb⟩; have n0_ := Aside0.mk (Kd.R_elder' (by (with_reducible repeat (first | apply Kd.R_alloc | apply Kd.R_drewN | apply Kd.R_drew)); exact HO622.out) (Kd.R_base ho0) hb); have n1_ := Aside0.mk (Kd.R_elder' (by (with_reducible repeat (first | apply Kd.R_alloc | apply Kd.R_drewN | apply Kd.R_drew)); exact HO626.out) (Kd.R_base ho0) hb); have n2_ := Aside0.mk (Kd.R_lower (Kd.R_new' (Kd.R_new' ho0 (Kd.R_lt (by (with_reducible repeat (first | apply Kd.R_alloc | apply Kd.R_drewN | apply Kd.R_drew)); exact HO622.out))) (Kd.R_lt (by (with_reducible repeat (first | apply Kd.R_alloc | apply Kd.R_drewN | apply Kd.R_drew)); exact HO626.out))) (below_size (by repeat (first | (with_reducible first | exact HB.out | apply below_alloc | apply pw_below_drewN | apply below_drew1) | exact HB.out)))); have n3_ := Aside0.mk (below_step (by repeat (first | (with_reducible first | exact HB.out | apply below_alloc | apply pw_below_drewN | apply below_drew1) | exact HB.out)) hb); clear HO622; clear HO626; clear HB; have HO622 := n0_; have HO626 := n1_; have HO630 := n2_; have HB := n3_; clear n0_ n1_ n2_ n3_; (try clear hb); (try clear hb2); (try clear hk); (try clear hi); (try clear ho0))))
                    (try simp only [Act.put, List.setIfInBounds_toArray, List.set_cons_zero, List.set_cons_succ])
                    go_cut [174] (fun v174 wc => ∃ (kq : Nat) (x174_52 : Bool), v174 = .bool x174_52 ∧ Aside0 (laws_FnSpells.j7 kq l0 x174_52 = some r) ∧ Aside0 (kq ≤ kj31) ∧ Aside0 (Below w.heap.size w wc))
                    case first =>
                     as_aux_lemma =>
                      have H := HC53.out
                      clear HC53
                      by_cases c58 : (t624 != t628) = true
                      ·
                       rw [if_pos c58] at H
                       have c58b0 : (t624 != t628) = true := c58
                       (try (have c58b1 : decide (t624 = t628) = false := by simpa using c58))
                       (try (have c58b2 : (t624 == t628) = false := by simpa using c58))
                       (try (have c58b3 : ¬ (t624 = t628) := by simpa using c58))
                       clear c58
                       (first | rw [c58b0] | (simp only [i64_w, i32_w]; rw [c58b0]) | skip)
                       have H' := Aside0.mk H
                       clear H
                       go_wp2
                       repeat (go_quiet (fail); try go_wp2)
                       go_meet
                       case rel => exact ⟨_, (true), (by first | rfl | (simp; done) | (simp [*]; done)), H', ⟨by have := HJ6.out; have := HK2.out; have := HJ12.out; have := HJ21.out; have := HJ31.out; first | omega | exact Nat.le_refl _⟩, ⟨by repeat (first | (with_reducible first | exact HB.out | apply below_alloc | apply pw_below_drewN | apply below_drew1) | exact HB.out)⟩⟩
                      ·
                       rw [if_neg c58] at H
                       have c58b0 : (t624 != t628) = false := by simpa using c58
                       (try (have c58b1 : decide (t624 = t628) = true := by simpa using c58))
                       (try (have c58b2 : (t624 == t628) = true := by simpa using c58))
                       clear c58
                       (first | rw [c58b0] | (simp only [i64_w, i32_w]; rw [c58b0]) | skip)
                       replace H := Option.bind_eq_some_iff.mp H
                       obtain ⟨t631, A590, H⟩ := H
                       replace H : (if t631 = true then (if t624 = true then (laws_FnSpells.j7 kj31 l0 ((t623.length : Int) != (wrap64 (Int.tdiv (wrap64 ((t620.length : Int) + 9)) 10)))) else (laws_FnSpells.j7 kj31 l0 false)) else (laws_FnSpells.j7 kj31 l0 true)) = some r := H
                       have A59 := Aside0.mk A590
                       clear A590
                       by_cases c60 : t631 = true
                       ·
                        subst c60
                        have H1 : (if t624 = true then (laws_FnSpells.j7 kj31 l0 ((t623.length : Int) != (wrap64 (Int.tdiv (wrap64 ((t620.length : Int) + 9)) 10)))) else (laws_FnSpells.j7 kj31 l0 false)) = some r := by rw [if_pos rfl] at H; exact H
                        clear H
                        have H := H1
                        clear H1
                        by_cases c61 : t624 = true
                        ·
                         subst c61
                         have H1 : (laws_FnSpells.j7 kj31 l0 ((t623.length : Int) != (wrap64 (Int.tdiv (wrap64 ((t620.length : Int) + 9)) 10)))) = some r := by rw [if_pos rfl] at H; exact H
                         clear H
                         have H := H1
                         clear H1
                         have H' := Aside0.mk H
                         clear H
                         obtain ⟨Ao62, co62, eo62⟩ := Kd.R_slice HO626.out
                         subst eo62
                         obtain ⟨Ao63, co63, eo63⟩ := Kd.R_slice HO630.out
                         subst eo63
                         go_wp2_with (first | (go_at_call 42; (with_reducible refine (laws_rInts.calls kj31 _ _ t623 _ _ t627 true _ ?side1 ?side2 ?side3 ?side4 A59.out).mono ?_); (case side1 => repeat (first | exact (Kd.R_reads' HO626.out).2.2 | (with_reducible refine Kd.C_alloc ?_ _) | (with_reducible refine Kd.C_drewN ?_ _) | (with_reducible refine Kd.C_drew ?_))); (case side2 => exact (Kd.R_reads' HO626.out).2.1); (case side3 => repeat (first | exact (Kd.R_reads' HO630.out).2.2 | (with_reducible refine Kd.C_alloc ?_ _) | (with_reducible refine Kd.C_drewN ?_ _) | (with_reducible refine Kd.C_drew ?_))); (case side4 => exact (Kd.R_reads' HO630.out).2.1); rintro e w' ⟨rfl, ⟨nd, rfl⟩⟩; (try first | exact ⟨rfl, _, World.drewN_drewN _ _ _⟩ | exact ⟨rfl, _, Eq.trans (World.drewN_drewN _ _ _) (congrArg (World.drewN _) (Nat.add_assoc _ _ _))⟩)))
                         repeat (go_quiet (first | (go_at_call 42; (with_reducible refine (laws_rInts.calls kj31 _ _ t623 _ _ t627 true _ ?side1 ?side2 ?side3 ?side4 A59.out).mono ?_); (case side1 => repeat (first | exact (Kd.R_reads' HO626.out).2.2 | (with_reducible refine Kd.C_alloc ?_ _) | (with_reducible refine Kd.C_drewN ?_ _) | (with_reducible refine Kd.C_drew ?_))); (case side2 => exact (Kd.R_reads' HO626.out).2.1); (case side3 => repeat (first | exact (Kd.R_reads' HO630.out).2.2 | (with_reducible refine Kd.C_alloc ?_ _) | (with_reducible refine Kd.C_drewN ?_ _) | (with_reducible refine Kd.C_drew ?_))); (case side4 => exact (Kd.R_reads' HO630.out).2.1); rintro e w' ⟨rfl, ⟨nd, rfl⟩⟩; (try first | exact ⟨rfl, _, World.drewN_drewN _ _ _⟩ | exact ⟨rfl, _, Eq.trans (World.drewN_drewN _ _ _) (congrArg (World.drewN _) (Nat.add_assoc _ _ _))⟩))); try go_wp2_with (first | (go_at_call 42; (with_reducible refine (laws_rInts.calls kj31 _ _ t623 _ _ t627 true _ ?side1 ?side2 ?side3 ?side4 A59.out).mono ?_); (case side1 => repeat (first | exact (Kd.R_reads' HO626.out).2.2 | (with_reducible refine Kd.C_alloc ?_ _) | (with_reducible refine Kd.C_drewN ?_ _) | (with_reducible refine Kd.C_drew ?_))); (case side2 => exact (Kd.R_reads' HO626.out).2.1); (case side3 => repeat (first | exact (Kd.R_reads' HO630.out).2.2 | (with_reducible refine Kd.C_alloc ?_ _) | (with_reducible refine Kd.C_drewN ?_ _) | (with_reducible refine Kd.C_drew ?_))); (case side4 => exact (Kd.R_reads' HO630.out).2.1); rintro e w' ⟨rfl, ⟨nd, rfl⟩⟩; (try first | exact ⟨rfl, _, World.drewN_drewN _ _ _⟩ | exact ⟨rfl, _, Eq.trans (World.drewN_drewN _ _ _) (congrArg (World.drewN _) (Nat.add_assoc _ _ _))⟩))))
                         go_meet
                         case rel => exact ⟨_, (((t623.length : Int) != (wrap64 (Int.tdiv (wrap64 ((t620.length : Int) + 9)) 10)))), (by first | rfl | (simp; done) | (simp [*]; done)), H', ⟨by have := HJ6.out; have := HK2.out; have := HJ12.out; have := HJ21.out; have := HJ31.out; first | omega | exact Nat.le_refl _⟩, ⟨by repeat (first | (with_reducible first | exact HB.out | apply below_alloc | apply pw_below_drewN | apply below_drew1) | exact HB.out)⟩⟩
                        ·
                         replace c61 := Bool.eq_false_iff.mpr c61
                         subst c61
                         have H1 : (laws_FnSpells.j7 kj31 l0 false) = some r := by rw [if_neg (show ¬ (false = true) by decide)] at H; exact H
                         clear H
                         have H := H1
                         clear H1
                         have H' := Aside0.mk H
                         clear H
                         obtain ⟨Ao64, co64, eo64⟩ := Kd.R_slice HO626.out
                         subst eo64
                         obtain ⟨Ao65, co65, eo65⟩ := Kd.R_slice HO630.out
                         subst eo65
                         go_wp2_with (first | (go_at_call 42; (with_reducible refine (laws_rInts.calls kj31 _ _ t623 _ _ t627 true _ ?side1 ?side2 ?side3 ?side4 A59.out).mono ?_); (case side1 => repeat (first | exact (Kd.R_reads' HO626.out).2.2 | (with_reducible refine Kd.C_alloc ?_ _) | (with_reducible refine Kd.C_drewN ?_ _) | (with_reducible refine Kd.C_drew ?_))); (case side2 => exact (Kd.R_reads' HO626.out).2.1); (case side3 => repeat (first | exact (Kd.R_reads' HO630.out).2.2 | (with_reducible refine Kd.C_alloc ?_ _) | (with_reducible refine Kd.C_drewN ?_ _) | (with_reducible refine Kd.C_drew ?_))); (case side4 => exact (Kd.R_reads' HO630.out).2.1); rintro e w' ⟨rfl, ⟨nd, rfl⟩⟩; (try first | exact ⟨rfl, _, World.drewN_drewN _ _ _⟩ | exact ⟨rfl, _, Eq.trans (World.drewN_drewN _ _ _) (congrArg (World.drewN _) (Nat.add_assoc _ _ _))⟩)))
                         repeat (go_quiet (first | (go_at_call 42; (with_reducible refine (laws_rInts.calls kj31 _ _ t623 _ _ t627 true _ ?side1 ?side2 ?side3 ?side4 A59.out).mono ?_); (case side1 => repeat (first | exact (Kd.R_reads' HO626.out).2.2 | (with_reducible refine Kd.C_alloc ?_ _) | (with_reducible refine Kd.C_drewN ?_ _) | (with_reducible refine Kd.C_drew ?_))); (case side2 => exact (Kd.R_reads' HO626.out).2.1); (case side3 => repeat (first | exact (Kd.R_reads' HO630.out).2.2 | (with_reducible refine Kd.C_alloc ?_ _) | (with_reducible refine Kd.C_drewN ?_ _) | (with_reducible refine Kd.C_drew ?_))); (case side4 => exact (Kd.R_reads' HO630.out).2.1); rintro e w' ⟨rfl, ⟨nd, rfl⟩⟩; (try first | exact ⟨rfl, _, World.drewN_drewN _ _ _⟩ | exact ⟨rfl, _, Eq.trans (World.drewN_drewN _ _ _) (congrArg (World.drewN _) (Nat.add_assoc _ _ _))⟩))); try go_wp2_with (first | (go_at_call 42; (with_reducible refine (laws_rInts.calls kj31 _ _ t623 _ _ t627 true _ ?side1 ?side2 ?side3 ?side4 A59.out).mono ?_); (case side1 => repeat (first | exact (Kd.R_reads' HO626.out).2.2 | (with_reducible refine Kd.C_alloc ?_ _) | (with_reducible refine Kd.C_drewN ?_ _) | (with_reducible refine Kd.C_drew ?_))); (case side2 => exact (Kd.R_reads' HO626.out).2.1); (case side3 => repeat (first | exact (Kd.R_reads' HO630.out).2.2 | (with_reducible refine Kd.C_alloc ?_ _) | (with_reducible refine Kd.C_drewN ?_ _) | (with_reducible refine Kd.C_drew ?_))); (case side4 => exact (Kd.R_reads' HO630.out).2.1); rintro e w' ⟨rfl, ⟨nd, rfl⟩⟩; (try first | exact ⟨rfl, _, World.drewN_drewN _ _ _⟩ | exact ⟨rfl, _, Eq.trans (World.drewN_drewN _ _ _) (congrArg (World.drewN _) (Nat.add_assoc _ _ _))⟩))))
                         go_meet
                         case rel => exact ⟨_, (false), (by first | rfl | (simp; done) | (simp [*]; done)), H', ⟨by have := HJ6.out; have := HK2.out; have := HJ12.out; have := HJ21.out; have := HJ31.out; first | omega | exact Nat.le_refl _⟩, ⟨by repeat (first | (with_reducible first | exact HB.out | apply below_alloc | apply pw_below_drewN | apply below_drew1) | exact HB.out)⟩⟩
                       ·
                        replace c60 := Bool.eq_false_iff.mpr c60
                        subst c60
                        have H1 : (laws_FnSpells.j7 kj31 l0 true) = some r := by rw [if_neg (show ¬ (false = true) by decide)] at H; exact H
                        clear H
                        have H := H1
                        clear H1
                        have H' := Aside0.mk H
                        clear H
                        obtain ⟨Ao66, co66, eo66⟩ := Kd.R_slice HO626.out
                        subst eo66
                        obtain ⟨Ao67, co67, eo67⟩ := Kd.R_slice HO630.out
                        subst eo67
                        go_wp2_with (first | (go_at_call 42; (with_reducible refine (laws_rInts.calls kj31 _ _ t623 _ _ t627 false _ ?side1 ?side2 ?side3 ?side4 A59.out).mono ?_); (case side1 => repeat (first | exact (Kd.R_reads' HO626.out).2.2 | (with_reducible refine Kd.C_alloc ?_ _) | (with_reducible refine Kd.C_drewN ?_ _) | (with_reducible refine Kd.C_drew ?_))); (case side2 => exact (Kd.R_reads' HO626.out).2.1); (case side3 => repeat (first | exact (Kd.R_reads' HO630.out).2.2 | (with_reducible refine Kd.C_alloc ?_ _) | (with_reducible refine Kd.C_drewN ?_ _) | (with_reducible refine Kd.C_drew ?_))); (case side4 => exact (Kd.R_reads' HO630.out).2.1); rintro e w' ⟨rfl, ⟨nd, rfl⟩⟩; (try first | exact ⟨rfl, _, World.drewN_drewN _ _ _⟩ | exact ⟨rfl, _, Eq.trans (World.drewN_drewN _ _ _) (congrArg (World.drewN _) (Nat.add_assoc _ _ _))⟩)))
                        repeat (go_quiet (first | (go_at_call 42; (with_reducible refine (laws_rInts.calls kj31 _ _ t623 _ _ t627 false _ ?side1 ?side2 ?side3 ?side4 A59.out).mono ?_); (case side1 => repeat (first | exact (Kd.R_reads' HO626.out).2.2 | (with_reducible refine Kd.C_alloc ?_ _) | (with_reducible refine Kd.C_drewN ?_ _) | (with_reducible refine Kd.C_drew ?_))); (case side2 => exact (Kd.R_reads' HO626.out).2.1); (case side3 => repeat (first | exact (Kd.R_reads' HO630.out).2.2 | (with_reducible refine Kd.C_alloc ?_ _) | (with_reducible refine Kd.C_drewN ?_ _) | (with_reducible refine Kd.C_drew ?_))); (case side4 => exact (Kd.R_reads' HO630.out).2.1); rintro e w' ⟨rfl, ⟨nd, rfl⟩⟩; (try first | exact ⟨rfl, _, World.drewN_drewN _ _ _⟩ | exact ⟨rfl, _, Eq.trans (World.drewN_drewN _ _ _) (congrArg (World.drewN _) (Nat.add_assoc _ _ _))⟩))); try go_wp2_with (first | (go_at_call 42; (with_reducible refine (laws_rInts.calls kj31 _ _ t623 _ _ t627 false _ ?side1 ?side2 ?side3 ?side4 A59.out).mono ?_); (case side1 => repeat (first | exact (Kd.R_reads' HO626.out).2.2 | (with_reducible refine Kd.C_alloc ?_ _) | (with_reducible refine Kd.C_drewN ?_ _) | (with_reducible refine Kd.C_drew ?_))); (case side2 => exact (Kd.R_reads' HO626.out).2.1); (case side3 => repeat (first | exact (Kd.R_reads' HO630.out).2.2 | (with_reducible refine Kd.C_alloc ?_ _) | (with_reducible refine Kd.C_drewN ?_ _) | (with_reducible refine Kd.C_drew ?_))); (case side4 => exact (Kd.R_reads' HO630.out).2.1); rintro e w' ⟨rfl, ⟨nd, rfl⟩⟩; (try first | exact ⟨rfl, _, World.drewN_drewN _ _ _⟩ | exact ⟨rfl, _, Eq.trans (World.drewN_drewN _ _ _) (congrArg (World.drewN _) (Nat.add_assoc _ _ _))⟩))))
                        go_meet
                        case rel => exact ⟨_, (true), (by first | rfl | (simp; done) | (simp [*]; done)), H', ⟨by have := HJ6.out; have := HK2.out; have := HJ12.out; have := HJ21.out; have := HJ31.out; first | omega | exact Nat.le_refl _⟩, ⟨by repeat (first | (with_reducible first | exact HB.out | apply below_alloc | apply pw_below_drewN | apply below_drew1) | exact HB.out)⟩⟩
                    case rest =>
                     as_aux_lemma =>
                      clear HC53
                      try clear c1
                      try clear c2
                      try clear p2
                      try clear c3
                      try clear c4
                      try clear c5
                      try clear p5
                      try clear q5
                      try clear hx5
                      try clear c6
                      try clear p6
                      try clear q6
                      try clear hx6
                      try clear c10
                      try clear c10b0
                      try clear c10b1
                      try clear c11
                      try clear c11b0
                      try clear c11b1
                      try clear c12
                      try clear c13
                      try clear c14
                      try clear c15
                      try clear c16
                      try clear c16b0
                      try clear c17
                      try clear c17b0
                      try clear c18
                      try clear c18b0
                      try clear c27
                      try clear c27b0
                      try clear c27b1
                      try clear c27b2
                      try clear c31
                      try clear c33
                      try clear c38
                      try clear c40
                      try clear c44
                      try clear c45
                      try clear c45b0
                      try clear c46
                      try clear c46b0
                      try clear c47
                      try clear c47b0
                      try clear c47b1
                      try clear c48
                      try clear c48b0
                      try clear c49
                      try clear c49b0
                      try clear c49b1
                      try clear c58
                      try clear c58b0
                      try clear c58b1
                      try clear c58b2
                      try clear p59
                      try clear q59
                      try clear hx59
                      try clear c60
                      try clear c61
                      try clear p61
                      try clear q61
                      try clear hx61
                      try clear p64
                      try clear hx598_0
                      try clear hx617_0
                      try clear hx618_0
                      try clear hx619_0
                      try clear p2
                      try clear p5
                      try clear p598
                      try clear p6
                      try clear p617
                      try clear p618
                      try clear p619
                      try clear q5
                      try clear q598
                      try clear q6
                      try clear q617
                      try clear q618
                      try clear q619
                      obtain ⟨kq, x174_52, rfl, HA, HJ52, HB⟩ := hcut
                      cases kq with
                      | zero => exact absurd HA.out (by simp [laws_FnSpells.j7])
                      | succ kj52 =>
                       have H := HA.out
                       clear HA
                       simp only [laws_FnSpells.j7] at H
                       by_cases c68 : x174_52 = true
                       ·
                        subst c68
                        have H1 : (some false) = some r := by rw [if_pos rfl] at H; exact H
                        exact absurd ((Option.some.inj H1).trans hrt_) (by decide)
                       ·
                        replace c68 := Bool.eq_false_iff.mpr c68
                        subst c68
                        have H1 : ((spec_DrawRecordDays.f kj52 l0).bind fun t632 => ((impl_RecordDays.f t632).bind fun bt635 => ((spec_RecordDays.f kj52 t632).bind fun bt639 => (if (bt635.2 != bt639.2) = true then (laws_FnSpells.j8 kj52 t632 bt635.1 true) else ((laws_rInts.f kj52 bt635.1 bt639.1).bind fun t643 => (laws_FnSpells.j8 kj52 t632 bt635.1 (!t643))))))) = some r := by rw [if_neg (show ¬ (false = true) by decide)] at H; exact H
                        clear H
                        have H := H1
                        clear H1
                        replace H := Option.bind_eq_some_iff.mp H
                        obtain ⟨t632, A690, H⟩ := H
                        replace H : ((impl_RecordDays.f t632).bind fun bt635 => ((spec_RecordDays.f kj52 t632).bind fun bt639 => (if (bt635.2 != bt639.2) = true then (laws_FnSpells.j8 kj52 t632 bt635.1 true) else ((laws_rInts.f kj52 bt635.1 bt639.1).bind fun t643 => (laws_FnSpells.j8 kj52 t632 bt635.1 (!t643)))))) = some r := H
                        have A69 := Aside0.mk A690
                        clear A690
                        replace H := Option.bind_eq_some_iff.mp H
                        obtain ⟨⟨t635, t636⟩, A700, H⟩ := H
                        replace H : ((spec_RecordDays.f kj52 t632).bind fun bt639 => (if (t636 != bt639.2) = true then (laws_FnSpells.j8 kj52 t632 t635 true) else ((laws_rInts.f kj52 t635 bt639.1).bind fun t643 => (laws_FnSpells.j8 kj52 t632 t635 (!t643))))) = some r := H
                        have A70 := Aside0.mk A700
                        clear A700
                        replace H := Option.bind_eq_some_iff.mp H
                        obtain ⟨⟨t639, t640⟩, A710, H⟩ := H
                        replace H : (if (t636 != t640) = true then (laws_FnSpells.j8 kj52 t632 t635 true) else ((laws_rInts.f kj52 t635 t639).bind fun t643 => (laws_FnSpells.j8 kj52 t632 t635 (!t643)))) = some r := H
                        have A71 := Aside0.mk A710
                        clear A710
                        have HC72 := Aside0.mk H
                        clear H
                        go_upto_region 35 with (first | (go_at_call 44; (with_reducible refine (spec_DrawRecordDays.calls kj52 _ _ l0 t632 _ ?side1 ?side2 A69.out).mono ?_); (case side1 => repeat (first | exact (Kd.C_below HR0.out HB.out) | (with_reducible refine Kd.C_alloc ?_ _) | (with_reducible refine Kd.C_drewN ?_ _) | (with_reducible refine Kd.C_drew ?_))); (case side2 => exact HC0.out); rintro e w73 ⟨v633, rfl, ho0, hb⟩; have n0_ := Aside0.mk (Kd.R_lower ho0 (below_size (by repeat (first | (with_reducible first | exact HB.out | apply below_alloc | apply pw_below_drewN | apply below_drew1) | exact HB.out)))); have n1_ := Aside0.mk (below_step (by repeat (first | (with_reducible first | exact HB.out | apply below_alloc | apply pw_below_drewN | apply below_drew1) | exact HB.out)) hb); clear HB; have HO634 := n0_; have HB := n1_; clear n0_ n1_; (try clear hb); (try clear hb2); (try clear hk); (try clear hi); (try clear ho0); obtain ⟨Ao74, co74, eo74⟩ := Kd.R_slice HO634.out; subst eo74) | (go_at_call 22; (with_reducible refine (impl_RecordDays.calls _ _ t632 t635 t636 _ ?side1 ?side2 A70.out).mono ?_); (case side1 => repeat (first | exact (Kd.R_reads' HO634.out).2.2 | (with_reducible refine Kd.C_alloc ?_ _) | (with_reducible refine Kd.C_drewN ?_ _) | (with_reducible refine Kd.C_drew ?_))); (case side2 => exact (Kd.R_reads' HO634.out).2.1); rintro e w75 ⟨v637, rfl, ho0, hb⟩; have n0_ := Aside0.mk (Kd.R_elder' (by (with_reducible repeat (first | apply Kd.R_alloc | apply Kd.R_drewN | apply Kd.R_drew)); exact HO634.out) (Kd.R_base ho0) hb); have n1_ := Aside0.mk (Kd.R_lower (Kd.R_new' ho0 (Kd.R_lt (by (with_reducible repeat (first | apply Kd.R_alloc | apply Kd.R_drewN | apply Kd.R_drew)); exact HO634.out))) (below_size (by repeat (first | (with_reducible first | exact HB.out | apply below_alloc | apply pw_below_drewN | apply below_drew1) | exact HB.out)))); have n2_ := Aside0.mk (below_step (by repeat (first | (with_reducible first | exact HB.out | apply below_alloc | apply pw_below_drewN | apply below_drew1) | exact HB.out)) hb); clear HO634; clear HB; have HO634 := n0_; have HO638 := n1_; have HB := n2_; clear n0_ n1_ n2_; (try clear hb); (try clear hb2); (try clear hk); (try clear hi); (try clear ho0)) | (go_at_call 21; (with_reducible refine (spec_RecordDays.calls kj52 _ _ t632 t639 t640 _ ?side1 ?side2 A71.out).mono ?_); (case side1 => repeat (first | exact (Kd.R_reads' HO634.out).2.2 | (with_reducible refine Kd.C_alloc ?_ _) | (with_reducible refine Kd.C_drewN ?_ _) | (with_reducible refine Kd.C_drew ?_))); (case side2 => exact (Kd.R_reads' HO634.out).2.1); rintro e w76 ⟨v641, rfl, ho0, hb⟩; have n0_ := Aside0.mk (Kd.R_elder' (by (with_reducible repeat (first | apply Kd.R_alloc | apply Kd.R_drewN | apply Kd.R_drew)); exact HO634.out) (Kd.R_base ho0) hb); have n1_ := Aside0.mk (Kd.R_elder' (by (with_reducible repeat (first | apply Kd.R_alloc | apply Kd.R_drewN | apply Kd.R_drew)); exact HO638.out) (Kd.R_base ho0) hb); have n2_ := Aside0.mk (Kd.R_lower (Kd.R_new' (Kd.R_new' ho0 (Kd.R_lt (by (with_reducible repeat (first | apply Kd.R_alloc | apply Kd.R_drewN | apply Kd.R_drew)); exact HO634.out))) (Kd.R_lt (by (with_reducible repeat (first | apply Kd.R_alloc | apply Kd.R_drewN | apply Kd.R_drew)); exact HO638.out))) (below_size (by repeat (first | (with_reducible first | exact HB.out | apply below_alloc | apply pw_below_drewN | apply below_drew1) | exact HB.out)))); have n3_ := Aside0.mk (below_step (by repeat (first | (with_reducible first | exact HB.out | apply below_alloc | apply pw_below_drewN | apply below_drew1) | exact HB.out)) hb); clear HO634; clear HO638; clear HB; have HO634 := n0_; have HO638 := n1_; have HO642 := n2_; have HB := n3_; clear n0_ n1_ n2_ n3_; (try clear hb); (try clear hb2); (try clear hk); (try clear hi); (try clear ho0)))
                        repeat (go_quiet (first | (go_at_call 44; (with_reducible refine (spec_DrawRecordDays.calls kj52 _ _ l0 t632 _ ?side1 ?side2 A69.out).mono ?_); (case side1 => repeat (first | exact (Kd.C_below HR0.out HB.out) | (with_reducible refine Kd.C_alloc ?_ _) | (with_reducible refine Kd.C_drewN ?_ _) | (with_reducible refine Kd.C_drew ?_))); (case side2 => exact HC0.out); rintro e w73 ⟨v633, rfl, ho0, hb⟩; have n0_ := Aside0.mk (Kd.R_lower ho0 (below_size (by repeat (first | (with_reducible first | exact HB.out | apply below_alloc | apply pw_below_drewN | apply below_drew1) | exact HB.out)))); have n1_ := Aside0.mk (below_step (by repeat (first | (with_reducible first | exact HB.out | apply below_alloc | apply pw_below_drewN | apply below_drew1) | exact HB.out)) hb); clear HB; have HO634 := n0_; have HB := n1_; clear n0_ n1_; (try clear hb); (try clear hb2); (try clear hk); (try clear hi); (try clear ho0); obtain ⟨Ao74, co74, eo74⟩ := Kd.R_slice HO634.out; subst eo74) | (go_at_call 22; (with_reducible refine (impl_RecordDays.calls _ _ t632 t635 t636 _ ?side1 ?side2 A70.out).mono ?_); (case side1 => repeat (first | exact (Kd.R_reads' HO634.out).2.2 | (with_reducible refine Kd.C_alloc ?_ _) | (with_reducible refine Kd.C_drewN ?_ _) | (with_reducible refine Kd.C_drew ?_))); (case side2 => exact (Kd.R_reads' HO634.out).2.1); rintro e w75 ⟨v637, rfl, ho0, hb⟩; have n0_ := Aside0.mk (Kd.R_elder' (by (with_reducible repeat (first | apply Kd.R_alloc | apply Kd.R_drewN | apply Kd.R_drew)); exact HO634.out) (Kd.R_base ho0) hb); have n1_ := Aside0.mk (Kd.R_lower (Kd.R_new' ho0 (Kd.R_lt (by (with_reducible repeat (first | apply Kd.R_alloc | apply Kd.R_drewN | apply Kd.R_drew)); exact HO634.out))) (below_size (by repeat (first | (with_reducible first | exact HB.out | apply below_alloc | apply pw_below_drewN | apply below_drew1) | exact HB.out)))); have n2_ := Aside0.mk (below_step (by repeat (first | (with_reducible first | exact HB.out | apply below_alloc | apply pw_below_drewN | apply below_drew1) | exact HB.out)) hb); clear HO634; clear HB; have HO634 := n0_; have HO638 := n1_; have HB := n2_; clear n0_ n1_ n2_; (try clear hb); (try clear hb2); (try clear hk); (try clear hi); (try clear ho0)) | (go_at_call 21; (with_reducible refine (spec_RecordDays.calls kj52 _ _ t632 t639 t640 _ ?side1 ?side2 A71.out).mono ?_); (case side1 => repeat (first | exact (Kd.R_reads' HO634.out).2.2 | (with_reducible refine Kd.C_alloc ?_ _) | (with_reducible refine Kd.C_drewN ?_ _) | (with_reducible refine Kd.C_drew ?_))); (case side2 => exact (Kd.R_reads' HO634.out).2.1); rintro e w76 ⟨v641, rfl, ho0, hb⟩; have n0_ := Aside0.mk (Kd.R_elder' (by (with_reducible repeat (first | apply Kd.R_alloc | apply Kd.R_drewN | apply Kd.R_drew)); exact HO634.out) (Kd.R_base ho0) hb); have n1_ := Aside0.mk (Kd.R_elder' (by (with_reducible repeat (first | apply Kd.R_alloc | apply Kd.R_drewN | apply Kd.R_drew)); exact HO638.out) (Kd.R_base ho0) hb); have n2_ := Aside0.mk (Kd.R_lower (Kd.R_new' (Kd.R_new' ho0 (Kd.R_lt (by (with_reducible repeat (first | apply Kd.R_alloc | apply Kd.R_drewN | apply Kd.R_drew)); exact HO634.out))) (Kd.R_lt (by (with_reducible repeat (first | apply Kd.R_alloc | apply Kd.R_drewN | apply Kd.R_drew)); exact HO638.out))) (below_size (by repeat (first | (with_reducible first | exact HB.out | apply below_alloc | apply pw_below_drewN | apply below_drew1) | exact HB.out)))); have n3_ := Aside0.mk (below_step (by repeat (first | (with_reducible first | exact HB.out | apply below_alloc | apply pw_below_drewN | apply below_drew1) | exact HB.out)) hb); clear HO634; clear HO638; clear HB; have HO634 := n0_; have HO638 := n1_; have HO642 := n2_; have HB := n3_; clear n0_ n1_ n2_ n3_; (try clear hb); (try clear hb2); (try clear hk); (try clear hi); (try clear ho0))); go_upto_region 35 with (first | (go_at_call 44; (with_reducible refine (spec_DrawRecordDays.calls kj52 _ _ l0 t632 _ ?side1 ?side2 A69.out).mono ?_); (case side1 => repeat (first | exact (Kd.C_below HR0.out HB.out) | (with_reducible refine Kd.C_alloc ?_ _) | (with_reducible refine Kd.C_drewN ?_ _) | (with_reducible refine Kd.C_drew ?_))); (case side2 => exact HC0.out); rintro e w73 ⟨v633, rfl, ho0, hb⟩; have n0_ := Aside0.mk (Kd.R_lower ho0 (below_size (by repeat (first | (with_reducible first | exact HB.out | apply below_alloc | apply pw_below_drewN | apply below_drew1) | exact HB.out)))); have n1_ := Aside0.mk (below_step (by repeat (first | (with_reducible first | exact HB.out | apply below_alloc | apply pw_below_drewN | apply below_drew1) | exact HB.out)) hb); clear HB; have HO634 := n0_; have HB := n1_; clear n0_ n1_; (try clear hb); (try clear hb2); (try clear hk); (try clear hi); (try clear ho0); obtain ⟨Ao74, co74, eo74⟩ := Kd.R_slice HO634.out; subst eo74) | (go_at_call 22; (with_reducible refine (impl_RecordDays.calls _ _ t632 t635 t636 _ ?side1 ?side2 A70.out).mono ?_); (case side1 => repeat (first | exact (Kd.R_reads' HO634.out).2.2 | (with_reducible refine Kd.C_alloc ?_ _) | (with_reducible refine Kd.C_drewN ?_ _) | (with_reducible refine Kd.C_drew ?_))); (case side2 => exact (Kd.R_reads' HO634.out).2.1); rintro e w75 ⟨v637, rfl, ho0, hb⟩; have n0_ := Aside0.mk (Kd.R_elder' (by (with_reducible repeat (first | apply Kd.R_alloc | apply Kd.R_drewN | apply Kd.R_drew)); exact HO634.out) (Kd.R_base ho0) hb); have n1_ := Aside0.mk (Kd.R_lower (Kd.R_new' ho0 (Kd.R_lt (by (with_reducible repeat (first | apply Kd.R_alloc | apply Kd.R_drewN | apply Kd.R_drew)); exact HO634.out))) (below_size (by repeat (first | (with_reducible first | exact HB.out | apply below_alloc | apply pw_below_drewN | apply below_drew1) | exact HB.out)))); have n2_ := Aside0.mk (below_step (by repeat (first | (with_reducible first | exact HB.out | apply below_alloc | apply pw_below_drewN | apply below_drew1) | exact HB.out)) hb); clear HO634; clear HB; have HO634 := n0_; have HO638 := n1_; have HB := n2_; clear n0_ n1_ n2_; (try clear hb); (try clear hb2); (try clear hk); (try clear hi); (try clear ho0)) | (go_at_call 21; (with_reducible refine (spec_RecordDays.calls kj52 _ _ t632 t639 t640 _ ?side1 ?side2 A71.out).mono ?_); (case side1 => repeat (first | exact (Kd.R_reads' HO634.out).2.2 | (with_reducible refine Kd.C_alloc ?_ _) | (with_reducible refine Kd.C_drewN ?_ _) | (with_reducible refine Kd.C_drew ?_))); (case side2 => exact (Kd.R_reads' HO634.out).2.1); rintro e w76 ⟨v641, rfl, ho0, hb⟩; have n0_ := Aside0.mk (Kd.R_elder' (by (with_reducible repeat (first | apply Kd.R_alloc | apply Kd.R_drewN | apply Kd.R_drew)); exact HO634.out) (Kd.R_base ho0) hb); have n1_ := Aside0.mk (Kd.R_elder' (by (with_reducible repeat (first | apply Kd.R_alloc | apply Kd.R_drewN | apply Kd.R_drew)); exact HO638.out) (Kd.R_base ho0) hb); have n2_ := Aside0.mk (Kd.R_lower (Kd.R_new' (Kd.R_new' ho0 (Kd.R_lt (by (with_reducible repeat (first | apply Kd.R_alloc | apply Kd.R_drewN | apply Kd.R_drew)); exact HO634.out))) (Kd.R_lt (by (with_reducible repeat (first | apply Kd.R_alloc | apply Kd.R_drewN | apply Kd.R_drew)); exact HO638.out))) (below_size (by repeat (first | (with_reducible first | exact HB.out | apply below_alloc | apply pw_below_drewN | apply below_drew1) | exact HB.out)))); have n3_ := Aside0.mk (below_step (by repeat (first | (with_reducible first | exact HB.out | apply below_alloc | apply pw_below_drewN | apply below_drew1) | exact HB.out)) hb); clear HO634; clear HO638; clear HB; have HO634 := n0_; have HO638 := n1_; have HO642 := n2_; have HB := n3_; clear n0_ n1_ n2_ n3_; (try clear hb); (try clear hb2); (try clear hk); (try clear hi); (try clear ho0))))
                        (try simp only [Act.put, List.setIfInBounds_toArray, List.set_cons_zero, List.set_cons_succ])
                        go_cut [195] (fun v195 wc => ∃ (kq : Nat) (x195_71 : Bool), v195 = .bool x195_71 ∧ Aside0 (laws_FnSpells.j8 kq t632 t635 x195_71 = some r) ∧ Aside0 (kq ≤ kj52) ∧ Aside0 (Kd.R (Kd.int .i64) 3 wc w.heap.size (fun k_ => some k_ ≠ (v637 : Value).ownBlock) (.slice Ao74 t632.length co74) t632) ∧ Aside0 (Kd.R (Kd.int .i64) 3 wc w.heap.size (fun k_ => some k_ ≠ ((.slice Ao74 t632.length co74) : Value).ownBlock) v637 t635) ∧ Aside0 (Below w.heap.size w wc))
                        case first =>
                         as_aux_lemma =>
                          have H := HC72.out
                          clear HC72
                          by_cases c77 : (t636 != t640) = true
                          ·
                           rw [if_pos c77] at H
                           have c77b0 : (t636 != t640) = true := c77
                           (try (have c77b1 : decide (t636 = t640) = false := by simpa using c77))
                           (try (have c77b2 : (t636 == t640) = false := by simpa using c77))
                           (try (have c77b3 : ¬ (t636 = t640) := by simpa using c77))
                           clear c77
                           (first | rw [c77b0] | (simp only [i64_w, i32_w]; rw [c77b0]) | skip)
                           have H' := Aside0.mk H
                           clear H
                           go_wp2
                           repeat (go_quiet (fail); try go_wp2)
                           go_meet
                           case rel => exact ⟨_, (true), (by first | rfl | (simp; done) | (simp [*]; done)), H', ⟨by have := HJ6.out; have := HK2.out; have := HJ12.out; have := HJ21.out; have := HJ31.out; have := HJ52.out; first | omega | exact Nat.le_refl _⟩, ⟨by (with_reducible repeat (first | apply Kd.R_alloc | apply Kd.R_drewN | apply Kd.R_drew)); exact Kd.R_mono HO634.out (fun _ hk => hk.1.2)⟩, ⟨by (with_reducible repeat (first | apply Kd.R_alloc | apply Kd.R_drewN | apply Kd.R_drew)); exact Kd.R_mono HO638.out (fun _ hk => hk.1.2)⟩, ⟨by repeat (first | (with_reducible first | exact HB.out | apply below_alloc | apply pw_below_drewN | apply below_drew1) | exact HB.out)⟩⟩
                          ·
                           rw [if_neg c77] at H
                           have c77b0 : (t636 != t640) = false := by simpa using c77
                           (try (have c77b1 : decide (t636 = t640) = true := by simpa using c77))
                           (try (have c77b2 : (t636 == t640) = true := by simpa using c77))
                           clear c77
                           (first | rw [c77b0] | (simp only [i64_w, i32_w]; rw [c77b0]) | skip)
                           replace H := Option.bind_eq_some_iff.mp H
                           obtain ⟨t643, A780, H⟩ := H
                           replace H : (laws_FnSpells.j8 kj52 t632 t635 (!t643)) = some r := H
                           have A78 := Aside0.mk A780
                           clear A780
                           have H' := Aside0.mk H
                           clear H
                           obtain ⟨Ao79, co79, eo79⟩ := Kd.R_slice HO638.out
                           subst eo79
                           obtain ⟨Ao80, co80, eo80⟩ := Kd.R_slice HO642.out
                           subst eo80
                           go_wp2_with (first | (go_at_call 42; (with_reducible refine (laws_rInts.calls kj52 _ _ t635 _ _ t639 t643 _ ?side1 ?side2 ?side3 ?side4 A78.out).mono ?_); (case side1 => repeat (first | exact (Kd.R_reads' HO638.out).2.2 | (with_reducible refine Kd.C_alloc ?_ _) | (with_reducible refine Kd.C_drewN ?_ _) | (with_reducible refine Kd.C_drew ?_))); (case side2 => exact (Kd.R_reads' HO638.out).2.1); (case side3 => repeat (first | exact (Kd.R_reads' HO642.out).2.2 | (with_reducible refine Kd.C_alloc ?_ _) | (with_reducible refine Kd.C_drewN ?_ _) | (with_reducible refine Kd.C_drew ?_))); (case side4 => exact (Kd.R_reads' HO642.out).2.1); rintro e w' ⟨rfl, ⟨nd, rfl⟩⟩; (try first | exact ⟨rfl, _, World.drewN_drewN _ _ _⟩ | exact ⟨rfl, _, Eq.trans (World.drewN_drewN _ _ _) (congrArg (World.drewN _) (Nat.add_assoc _ _ _))⟩)))
                           repeat (go_quiet (first | (go_at_call 42; (with_reducible refine (laws_rInts.calls kj52 _ _ t635 _ _ t639 t643 _ ?side1 ?side2 ?side3 ?side4 A78.out).mono ?_); (case side1 => repeat (first | exact (Kd.R_reads' HO638.out).2.2 | (with_reducible refine Kd.C_alloc ?_ _) | (with_reducible refine Kd.C_drewN ?_ _) | (with_reducible refine Kd.C_drew ?_))); (case side2 => exact (Kd.R_reads' HO638.out).2.1); (case side3 => repeat (first | exact (Kd.R_reads' HO642.out).2.2 | (with_reducible refine Kd.C_alloc ?_ _) | (with_reducible refine Kd.C_drewN ?_ _) | (with_reducible refine Kd.C_drew ?_))); (case side4 => exact (Kd.R_reads' HO642.out).2.1); rintro e w' ⟨rfl, ⟨nd, rfl⟩⟩; (try first | exact ⟨rfl, _, World.drewN_drewN _ _ _⟩ | exact ⟨rfl, _, Eq.trans (World.drewN_drewN _ _ _) (congrArg (World.drewN _) (Nat.add_assoc _ _ _))⟩))); try go_wp2_with (first | (go_at_call 42; (with_reducible refine (laws_rInts.calls kj52 _ _ t635 _ _ t639 t643 _ ?side1 ?side2 ?side3 ?side4 A78.out).mono ?_); (case side1 => repeat (first | exact (Kd.R_reads' HO638.out).2.2 | (with_reducible refine Kd.C_alloc ?_ _) | (with_reducible refine Kd.C_drewN ?_ _) | (with_reducible refine Kd.C_drew ?_))); (case side2 => exact (Kd.R_reads' HO638.out).2.1); (case side3 => repeat (first | exact (Kd.R_reads' HO642.out).2.2 | (with_reducible refine Kd.C_alloc ?_ _) | (with_reducible refine Kd.C_drewN ?_ _) | (with_reducible refine Kd.C_drew ?_))); (case side4 => exact (Kd.R_reads' HO642.out).2.1); rintro e w' ⟨rfl, ⟨nd, rfl⟩⟩; (try first | exact ⟨rfl, _, World.drewN_drewN _ _ _⟩ | exact ⟨rfl, _, Eq.trans (World.drewN_drewN _ _ _) (congrArg (World.drewN _) (Nat.add_assoc _ _ _))⟩))))
                           go_meet
                           case rel => exact ⟨_, (!t643), (by first | rfl | (simp; done) | (simp [*]; done)), H', ⟨by have := HJ6.out; have := HK2.out; have := HJ12.out; have := HJ21.out; have := HJ31.out; have := HJ52.out; first | omega | exact Nat.le_refl _⟩, ⟨by (with_reducible repeat (first | apply Kd.R_alloc | apply Kd.R_drewN | apply Kd.R_drew)); exact Kd.R_mono HO634.out (fun _ hk => hk.1.2)⟩, ⟨by (with_reducible repeat (first | apply Kd.R_alloc | apply Kd.R_drewN | apply Kd.R_drew)); exact Kd.R_mono HO638.out (fun _ hk => hk.1.2)⟩, ⟨by repeat (first | (with_reducible first | exact HB.out | apply below_alloc | apply pw_below_drewN | apply below_drew1) | exact HB.out)⟩⟩
                        case rest =>
                         as_aux_lemma =>
                          clear HC72
                          try clear c1
                          try clear c2
                          try clear p2
                          try clear c3
                          try clear c4
                          try clear c5
                          try clear p5
                          try clear q5
                          try clear hx5
                          try clear c6
                          try clear p6
                          try clear q6
                          try clear hx6
                          try clear c7
                          try clear c10
                          try clear c10b0
                          try clear c10b1
                          try clear c11
                          try clear c11b0
                          try clear c11b1
                          try clear c12
                          try clear c13
                          try clear c14
                          try clear c15
                          try clear c16
                          try clear c16b0
                          try clear c17
                          try clear c17b0
                          try clear c18
                          try clear c18b0
                          try clear c27
                          try clear c27b0
                          try clear c27b1
                          try clear c27b2
                          try clear c31
                          try clear c33
                          try clear c38
                          try clear c40
                          try clear c44
                          try clear c45
                          try clear c45b0
                          try clear c46
                          try clear c46b0
                          try clear c47
                          try clear c47b0
                          try clear c47b1
                          try clear c48
                          try clear c48b0
                          try clear c49
                          try clear c49b0
                          try clear c49b1
                          try clear c58
                          try clear c58b0
                          try clear c58b1
                          try clear c58b2
                          try clear p59
                          try clear q59
                          try clear hx59
                          try clear c60
                          try clear c61
                          try clear p61
                          try clear q61
                          try clear hx61
                          try clear p64
                          try clear c68
                          try clear c77
                          try clear c77b0
                          try clear c77b1
                          try clear c77b2
                          try clear hx598_0
                          try clear hx617_0
                          try clear hx618_0
                          try clear hx619_0
                          try clear p2
                          try clear p5
                          try clear p59
                          try clear p598
                          try clear p6
                          try clear p61
                          try clear p617
                          try clear p618
                          try clear p619
                          try clear p64
                          try clear q5
                          try clear q59
                          try clear q598
                          try clear q6
                          try clear q61
                          try clear q617
                          try clear q618
                          try clear q619
                          obtain ⟨kq, x195_71, rfl, HA, HJ71, HO_25, HO_26, HB⟩ := hcut
                          cases kq with
                          | zero => exact absurd HA.out (by simp [laws_FnSpells.j8])
                          | succ kj71 =>
                           have H := HA.out
                           clear HA
                           simp only [laws_FnSpells.j8] at H
                           by_cases c81 : x195_71 = true
                           ·
                            subst c81
                            have H1 : (some false) = some r := by rw [if_pos rfl] at H; exact H
                            exact absurd ((Option.some.inj H1).trans hrt_) (by decide)
                           ·
                            replace c81 := Bool.eq_false_iff.mpr c81
                            subst c81
                            have H1 : (laws_FnSpells.l2 kj71 t632 t635 1) = some r := by rw [if_neg (show ¬ (false = true) by decide)] at H; exact H
                            clear H
                            have H := H1
                            clear H1
                            have H' := Aside0.mk H
                            clear H
                            go_wp2
                            repeat (go_quiet (fail); try go_wp2)
                            go_loopg [30] kj71 (fun kq v30 w' => ∃ (x30_8 : Int), v30 = .int .i64 x30_8 ∧ Aside0 (laws_FnSpells.l2 kq t632 t635 x30_8 = some r) ∧ Aside0 (kq ≤ kj71) ∧ Aside0 (Kd.R (Kd.int .i64) 3 w' w.heap.size (fun k_ => some k_ ≠ (v637 : Value).ownBlock) (.slice Ao74 t632.length co74) t632) ∧ Aside0 (Kd.R (Kd.int .i64) 3 w' w.heap.size (fun k_ => some k_ ≠ ((.slice Ao74 t632.length co74) : Value).ownBlock) v637 t635) ∧ Aside0 (Below w.heap.size w w'))
                            case atStart => exact ⟨(1), (by first | rfl | (simp; done) | (simp [*]; done)), H', ⟨Nat.le_refl _⟩, ⟨by (with_reducible repeat (first | apply Kd.R_alloc | apply Kd.R_drewN | apply Kd.R_drew)); exact HO_25.out⟩, ⟨by (with_reducible repeat (first | apply Kd.R_alloc | apply Kd.R_drewN | apply Kd.R_drew)); exact HO_26.out⟩, ⟨by repeat (first | (with_reducible first | exact HB.out | apply below_alloc | apply pw_below_drewN | apply below_drew1) | exact HB.out)⟩⟩
                            case round =>
                             as_aux_lemma =>
                              clear H'
                              try clear c1
                              try clear c2
                              try clear p2
                              try clear c3
                              try clear c4
                              try clear c5
                              try clear p5
                              try clear q5
                              try clear hx5
                              try clear c6
                              try clear p6
                              try clear q6
                              try clear hx6
                              try clear c7
                              try clear c8
                              try clear c10
                              try clear c10b0
                              try clear c10b1
                              try clear c11
                              try clear c11b0
                              try clear c11b1
                              try clear c12
                              try clear c13
                              try clear c14
                              try clear c15
                              try clear c16
                              try clear c16b0
                              try clear c17
                              try clear c17b0
                              try clear c18
                              try clear c18b0
                              try clear c27
                              try clear c27b0
                              try clear c27b1
                              try clear c27b2
                              try clear c31
                              try clear c33
                              try clear c38
                              try clear c40
                              try clear c44
                              try clear c45
                              try clear c45b0
                              try clear c46
                              try clear c46b0
                              try clear c47
                              try clear c47b0
                              try clear c47b1
                              try clear c48
                              try clear c48b0
                              try clear c49
                              try clear c49b0
                              try clear c49b1
                              try clear c58
                              try clear c58b0
                              try clear c58b1
                              try clear c58b2
                              try clear p59
                              try clear q59
                              try clear hx59
                              try clear c60
                              try clear c61
                              try clear p61
                              try clear q61
                              try clear hx61
                              try clear p64
                              try clear c68
                              try clear c77
                              try clear c77b0
                              try clear c77b1
                              try clear c77b2
                              try clear c81
                              try clear hx598_0
                              try clear hx617_0
                              try clear hx618_0
                              try clear hx619_0
                              try clear p2
                              try clear p5
                              try clear p59
                              try clear p598
                              try clear p6
                              try clear p61
                              try clear p617
                              try clear p618
                              try clear p619
                              try clear p64
                              try clear q5
                              try clear q59
                              try clear q598
                              try clear q6
                              try clear q61
                              try clear q617
                              try clear q618
                              try clear q619
                              obtain ⟨x30_8, rfl, HA, HK8, HO_25, HO_26, HB⟩ := hrel
                              cases gk with
                              | zero => exact absurd HA.out (by simp [laws_FnSpells.l2])
                              | succ k8 =>
                               have H := HA.out
                               clear HA
                               simp only [laws_FnSpells.l2] at H
                               by_cases c82 : x30_8 < (t635.length : Int)
                               ·
                                rw [if_pos c82] at H
                                have c82b0 : decide (x30_8 < (t635.length : Int)) = true := decide_eq_true c82
                                clear c82
                                obtain ⟨ji83, hji83⟩ : ∃ j_ : Int, (wrap64 (x30_8 - 1)) = j_ := ⟨_, rfl⟩
                                replace H : (if 0 ≤ (ji83) then (if (ji83) < (t635.length : Int) then (if 0 ≤ (rd t635 (ji83)) then (if (rd t635 (ji83)) < (t632.length : Int) then (if 0 ≤ x30_8 then (if 0 ≤ (rd t635 x30_8) then (if (rd t635 x30_8) < (t632.length : Int) then (if (rd t632 (rd t635 (ji83))) ≥ (rd t632 (rd t635 x30_8)) then (some false) else (laws_FnSpells.l2 k8 t632 t635 (wrap64 (x30_8 + 1)))) else (none)) else (none)) else (none)) else (none)) else (none)) else (none)) else (none)) = some r := by first | (rw [hji83] at H; exact H) | (simp only [hji83] at H ⊢; exact H)
                                have hji83w : (IntKind.i64.wrap (x30_8 - 1)) = ji83 := (i64_w _).trans hji83
                                by_cases c84 : 0 ≤ (ji83)
                                ·
                                 rw [if_pos c84] at H
                                 have c84b0 : decide (0 ≤ (ji83)) = true := decide_eq_true c84
                                 clear c84
                                 by_cases c85 : (ji83) < (t635.length : Int)
                                 ·
                                  rw [if_pos c85] at H
                                  have c85b0 : decide ((ji83) < (t635.length : Int)) = true := decide_eq_true c85
                                  clear c85
                                  by_cases c86 : 0 ≤ (rd t635 (ji83))
                                  ·
                                   rw [if_pos c86] at H
                                   have c86b0 : decide (0 ≤ (rd t635 (ji83))) = true := decide_eq_true c86
                                   clear c86
                                   by_cases c87 : (rd t635 (ji83)) < (t632.length : Int)
                                   ·
                                    rw [if_pos c87] at H
                                    have c87b0 : decide ((rd t635 (ji83)) < (t632.length : Int)) = true := decide_eq_true c87
                                    clear c87
                                    by_cases c88 : 0 ≤ x30_8
                                    ·
                                     rw [if_pos c88] at H
                                     have c88b0 : decide (0 ≤ x30_8) = true := decide_eq_true c88
                                     clear c88
                                     by_cases c89 : 0 ≤ (rd t635 x30_8)
                                     ·
                                      rw [if_pos c89] at H
                                      have c89b0 : decide (0 ≤ (rd t635 x30_8)) = true := decide_eq_true c89
                                      clear c89
                                      by_cases c90 : (rd t635 x30_8) < (t632.length : Int)
                                      ·
                                       rw [if_pos c90] at H
                                       have c90b0 : decide ((rd t635 x30_8) < (t632.length : Int)) = true := decide_eq_true c90
                                       clear c90
                                       by_cases c91 : (rd t632 (rd t635 (ji83))) ≥ (rd t632 (rd t635 x30_8))
                                       ·
                                        rw [if_pos c91] at H
                                        have c91b0 : decide ((rd t632 (rd t635 x30_8)) ≤ (rd t632 (rd t635 (ji83)))) = true := decide_eq_true c91
                                        clear c91
                                        exact absurd ((Option.some.inj H).trans hrt_) (by decide)
                                       ·
                                        rw [if_neg c91] at H
                                        have c91b0 : decide ((rd t632 (rd t635 x30_8)) ≤ (rd t632 (rd t635 (ji83)))) = false := decide_eq_false c91
                                        clear c91
                                        have H' := Aside0.mk H
                                        clear H
                                        obtain ⟨Ao93, co93, eo93⟩ := Kd.R_slice HO_26.out
                                        subst eo93
                                        have p644 : 0 ≤ ((ji83) : Int) := of_decide_eq_true (by first | (with_reducible assumption) | assumption)
                                        have q644 : (ji83) < (t635.length : Int) := of_decide_eq_true (by first | (with_reducible assumption) | assumption)
                                        obtain ⟨ad644, e644, hx644_0⟩ := Kd.at_int (Kd.R_reads' HO_26.out).2.2 (ji83) p644 q644
                                        cases e644
                                        replace p644 := eq_true p644
                                        replace q644 := eq_true q644
                                        have p645 : 0 ≤ ((rd t635 (ji83)) : Int) := of_decide_eq_true (by first | (with_reducible assumption) | assumption)
                                        have q645 : (rd t635 (ji83)) < (t632.length : Int) := of_decide_eq_true (by first | (with_reducible assumption) | assumption)
                                        obtain ⟨ad645, e645, hx645_0⟩ := Kd.at_int (Kd.R_reads' HO_25.out).2.2 (rd t635 (ji83)) p645 q645
                                        cases e645
                                        replace p645 := eq_true p645
                                        replace q645 := eq_true q645
                                        have p646 : 0 ≤ (x30_8 : Int) := of_decide_eq_true (by first | (with_reducible assumption) | assumption)
                                        have q646 : x30_8 < (t635.length : Int) := of_decide_eq_true (by first | (with_reducible assumption) | assumption)
                                        obtain ⟨ad646, e646, hx646_0⟩ := Kd.at_int (Kd.R_reads' HO_26.out).2.2 x30_8 p646 q646
                                        obtain rfl : ad644 = ad646 := (by injection e646)
                                        replace p646 := eq_true p646
                                        replace q646 := eq_true q646
                                        have p647 : 0 ≤ ((rd t635 x30_8) : Int) := of_decide_eq_true (by first | (with_reducible assumption) | assumption)
                                        have q647 : (rd t635 x30_8) < (t632.length : Int) := of_decide_eq_true (by first | (with_reducible assumption) | assumption)
                                        obtain ⟨ad647, e647, hx647_0⟩ := Kd.at_int (Kd.R_reads' HO_25.out).2.2 (rd t635 x30_8) p647 q647
                                        obtain rfl : ad645 = ad647 := (by injection e647)
                                        replace p647 := eq_true p647
                                        replace q647 := eq_true q647
                                        go_wp2
                                        repeat (go_quiet (fail); try go_wp2)
                                        go_roundg k8
                                        case measure => have := HJ6.out; have := HK2.out; have := HJ12.out; have := HJ21.out; have := HJ31.out; have := HJ52.out; have := HJ71.out; have := HK8.out; omega
                                        case rel => exact ⟨(wrap64 (x30_8 + 1)), (by first | rfl | (simp; done) | (simp [*]; done)), H', ⟨by have := HJ6.out; have := HK2.out; have := HJ12.out; have := HJ21.out; have := HJ31.out; have := HJ52.out; have := HJ71.out; have := HK8.out; omega⟩, ⟨by (with_reducible repeat (first | apply Kd.R_alloc | apply Kd.R_drewN | apply Kd.R_drew)); exact HO_25.out⟩, ⟨by (with_reducible repeat (first | apply Kd.R_alloc | apply Kd.R_drewN | apply Kd.R_drew)); exact HO_26.out⟩, ⟨by repeat (first | (with_reducible first | exact HB.out | apply below_alloc | apply pw_below_drewN | apply below_drew1) | exact HB.out)⟩⟩
                                      ·
                                       rw [if_neg c90] at H
                                       exact absurd H (by simp)
                                     ·
                                      rw [if_neg c89] at H
                                      exact absurd H (by simp)
                                    ·
                                     rw [if_neg c88] at H
                                     exact absurd H (by simp)
                                   ·
                                    rw [if_neg c87] at H
                                    exact absurd H (by simp)
                                  ·
                                   rw [if_neg c86] at H
                                   exact absurd H (by simp)
                                 ·
                                  rw [if_neg c85] at H
                                  exact absurd H (by simp)
                                ·
                                 rw [if_neg c84] at H
                                 exact absurd H (by simp)
                               ·
                                rw [if_neg c82] at H
                                have c82b0 : decide (x30_8 < (t635.length : Int)) = false := decide_eq_false c82
                                clear c82
                                obtain rfl := Option.some.inj H
                                obtain ⟨Ao94, co94, eo94⟩ := Kd.R_slice HO_26.out
                                subst eo94
                                go_wp2
                                repeat (go_quiet (fail); try go_wp2)
                                go_ret
                                exact ⟨by first | rfl | (simp [errW_none, errW_some] <;> rfl) | (simp [*, errW_none, errW_some] <;> rfl), by repeat (first | (with_reducible first | exact HB.out | apply below_alloc | apply pw_below_drewN | apply below_drew1) | exact HB.out)⟩

/-- THE ONE PURE STATEMENT of laws_FnSpells: yours. -/
def laws_FnSpells.Pure : Prop := ∀ (l0 : List Int), l0.length ≤ maxLen → l0.length * 1 ≤ 140737488351232 → (∀ x ∈ l0, (Lit.int .u8 x).wf = true) → ∃ k, laws_FnSpells.f k l0 = some true
theorem laws_FnSpells.walk (P : laws_FnSpells.Pure) (a0 : Option Addr) (len0 cap0 : Nat) (z0 : List Int) (w : World) (w0 : (a0 = none ∧ len0 = 0 ∧ cap0 = 0 ∧ z0 = []) ∨ ∃ x, a0 = some x ∧ len0 ≤ cap0 ∧ cap0 ≤ maxLen ∧ z0.length = cap0 ∧ (∀ i, i < z0.length → w.cell? (x.add i) = some (.int .u8 (z0.getD i 0))) ∧ ∀ n ∈ z0, (Lit.int .u8 n).wf = true) (y0 : len0 * 1 ≤ 140737488351232) :
  Calls Try.prog 13 #[.slice a0 len0 cap0] w fun e w' => e = .returned (.bool true) ∧ Below w.heap.size w w' := by
 obtain ⟨l0, rfl, hr0, hm0, hw0, hc0⟩ := ReadsInt.ofRowC w0
 obtain ⟨k, h⟩ := P l0 hm0 y0 hw0
 refine (laws_FnSpells.calls k _ _ l0 true w (Kd.C_of_reads (d := (0 : Int)) (h1 := fun _ => rfl) hr0) hc0 h rfl).mono ?_
 rintro e w' ⟨rfl, hd⟩
 exact ⟨rfl, hd⟩

end Go.Proofs.Ytdhdifoenladpaa.P
