-- Made by pp.py of this session out of the kit's print and of contracts proved by hand; Lean checks it.
import Derived.Test.YtgmmanppmjlclaaPx0
import Derived.Test.YtgmmanppmjlclaaPx1
import Derived.Test.YtgmmanppmjlclaaPx19
import Derived.Test.YtgmmanppmjlclaaPx21
import Derived.Test.YtgmmanppmjlclaaPx23
import Derived.Test.YtgmmanppmjlclaaPx24
import Derived.Test.YtgmmanppmjlclaaPx25
import Derived.Test.YtgmmanppmjlclaaPx26
import Derived.Test.YtgmmanppmjlclaaPx37
import Derived.Test.YtgmmanppmjlclaaPx40
namespace Go.Proofs.Ytgmmanppmjlclaa.P
open Go.RowKit Go.Proofs.YtgmmanppmjlclaaW.PrintWords Go.Proofs.YtgmmanppmjlclaaW.PrintLast Go.Proofs.YtgmmanppmjlclaaW.PrintMore
attribute [local go_sem] max2_int min2_int max_two min_two max_three min_three max_four min_four   -- for this text's walks alone
set_option linter.unusedVariables false
set_option linter.unusedSimpArgs false

attribute [local go_sem high] eqA30
/-! ### laws_FnPruning: function 10 -/
mutual
def laws_FnPruning.j0 : Nat → List Int → List (S30) → Int → List (S30) → Bool → Bool → Option (Bool)
 | 0, _, _, _, _, _, _ => none
 | k + 1, x0, x3, x4, x5, x6, x65 => if x65 = true then (some false) else ((impl_NamesOf.f k x3).bind fun bt717 => ((spec_NamesOf.f k x3).bind fun bt721 => (if (bt717.2 != bt721.2) = true then (laws_FnPruning.j1 k x0 x3 x4 x5 x6 bt717.1 true) else ((laws_rTexts.f k bt717.1 bt721.1).bind fun t725 => (laws_FnPruning.j1 k x0 x3 x4 x5 x6 bt717.1 (!t725))))))
def laws_FnPruning.j1 : Nat → List Int → List (S30) → Int → List (S30) → Bool → List ByteArray → Bool → Option (Bool)
 | 0, _, _, _, _, _, _, _ => none
 | k + 1, x0, x3, x4, x5, x6, x9, x84 => if x84 = true then (some false) else (laws_FnPruning.l0 k x0 x3 x4 x5 x6 x9 0)
def laws_FnPruning.l0 : Nat → List Int → List (S30) → Int → List (S30) → Bool → List ByteArray → Int → Option (Bool)
 | 0, _, _, _, _, _, _, _ => none
 | k + 1, x0, x3, x4, x5, x6, x9, x13 => if x13 < (x9.length : Int) then (laws_FnPruning.j3 k x0 x3 x4 x5 x6 x9 x13 x6) else (laws_FnPruning.j3 k x0 x3 x4 x5 x6 x9 x13 false)
def laws_FnPruning.j3 : Nat → List Int → List (S30) → Int → List (S30) → Bool → List ByteArray → Int → Bool → Option (Bool)
 | 0, _, _, _, _, _, _, _, _ => none
 | k + 1, x0, x3, x4, x5, x6, x9, x13, x91 => if x91 = true then (laws_FnPruning.l1 k x0 x3 x4 x5 x6 x9 x13 x4) else ((spec_DrawChangedBetween.f k x0).bind fun bt738 => ((impl_ChangedBetween.f k bt738.1 bt738.2.1 bt738.2.2).bind fun bt743 => ((spec_ChangedBetween.f k bt738.1 bt738.2.1 bt738.2.2).bind fun bt747 => (if (bt743.2 != bt747.2) = true then (laws_FnPruning.j5 k x0 bt738.1 bt738.2.1 bt738.2.2 bt743.1 true) else ((laws_rTexts.f k bt743.1 bt747.1).bind fun t751 => (laws_FnPruning.j5 k x0 bt738.1 bt738.2.1 bt738.2.2 bt743.1 (!t751)))))))
def laws_FnPruning.l1 : Nat → List Int → List (S30) → Int → List (S30) → Bool → List ByteArray → Int → Int → Option (Bool)
 | 0, _, _, _, _, _, _, _, _ => none
 | k + 1, x0, x3, x4, x5, x6, x9, x13, x14 => if x14 ≤ 240 then (if 0 ≤ x13 then (if x13 < (x9.length : Int) then ((impl_ValidProduct.f k x3 (rdOf ByteArray.empty x9 x13) x14).bind fun bt727 => ((impl_ValidProduct.f k x5 (rdOf ByteArray.empty x9 x13) x14).bind fun bt733 => (if (bt727.2.2.2 != bt733.2.2.2) = true then (some false) else (if (!(bt727.1.toList == bt733.1.toList) || (!(bt727.2.1 == bt733.2.1) || (!(bt727.2.2.1.toList == bt733.2.2.1.toList)))) = true then (some false) else (laws_FnPruning.l1 k x0 x3 x4 x5 x6 x9 x13 (wrap64 (x14 + 30))))))) else (none)) else (none)) else (laws_FnPruning.l0 k x0 x3 x4 x5 x6 x9 (wrap64 (x13 + 1)))
def laws_FnPruning.j5 : Nat → List Int → List (S30) → Int → Int → List ByteArray → Bool → Option (Bool)
 | 0, _, _, _, _, _, _ => none
 | k + 1, x0, x19, x20, x21, x22, x155 => if x155 = true then (some false) else (laws_FnPruning.l2 k x0 x19 x20 x21 x22 0)
def laws_FnPruning.l2 : Nat → List Int → List (S30) → Int → Int → List ByteArray → Int → Option (Bool)
 | 0, _, _, _, _, _, _ => none
 | k + 1, x0, x19, x20, x21, x22, x26 => if x26 < (x22.length : Int) then (if 0 ≤ x26 then ((impl_ValidProduct.f k x19 (rdOf ByteArray.empty x22 x26) x21).bind fun bt768 => ((impl_ValidProduct.f k x19 (rdOf ByteArray.empty x22 x26) x20).bind fun bt774 => (if bt768.2.2.2 = true then (if bt774.2.2.2 = true then (if bt774.2.2.1.toList = bt768.2.2.1.toList then (some false) else (laws_FnPruning.l2 k x0 x19 x20 x21 x22 (wrap64 (x26 + 1)))) else (laws_FnPruning.l2 k x0 x19 x20 x21 x22 (wrap64 (x26 + 1)))) else (some false)))) else (none)) else ((spec_DrawValidProduct.f k x0).bind fun bt752 => ((impl_ValidProduct.f k bt752.1 bt752.2.1 bt752.2.2).bind fun bt757 => ((spec_ValidProduct.f k bt752.1 bt752.2.1 bt752.2.2).bind fun bt762 => (if (bt757.1.toList == bt762.1.toList && (bt757.2.1 == bt762.2.1 && (bt757.2.2.1.toList == bt762.2.2.1.toList))) = true then (some (bt757.2.2.2 == bt762.2.2.2)) else (some false)))))
end
def laws_FnPruning.f (k : Nat) (l0 : List Int) : Option (Bool) := (laws_rBig.f l0).bind fun t703 => (if t703 = true then (some true) else ((spec_DrawPruneArchive.f k l0).bind fun bt704 => ((impl_PruneArchive.f k bt704.1 bt704.2).bind fun bt708 => ((spec_PruneArchive.f k bt704.1 bt704.2).bind fun bt712 => (if (bt708.2 != bt712.2) = true then (laws_FnPruning.j0 k l0 bt704.1 bt704.2 bt708.1 bt708.2 true) else ((laws_rArchives.f k bt708.1 bt712.1).bind fun t716 => (laws_FnPruning.j0 k l0 bt704.1 bt704.2 bt708.1 bt708.2 (!t716))))))))
set_option maxHeartbeats 8000000 in
set_option maxRecDepth 100000 in
theorem laws_FnPruning.calls (k : Nat) (A0 : Option Addr) (c0 : Nat) (l0 : List Int) (r : Bool) (w : World) (hr0 : Kd.C (Kd.int .u8) w A0 l0.length l0) (hc0 : l0.length ≤ c0) (h : laws_FnPruning.f k l0 = some r) (hrt_ : r = true) :
  Calls Try.prog 10 #[.slice A0 l0.length c0] w fun e w' => e = .returned (.bool r) ∧ Below w.heap.size w w' := by
 have hu30 := Try.underlying30
 have HR0 := Aside0.mk hr0
 have HC0 := Aside0.mk hc0
 clear hr0 hc0
 have HB := Aside0.mk (Below.refl w.heap.size w)
 have H : ((laws_rBig.f l0).bind fun t703 => (if t703 = true then (some true) else ((spec_DrawPruneArchive.f k l0).bind fun bt704 => ((impl_PruneArchive.f k bt704.1 bt704.2).bind fun bt708 => ((spec_PruneArchive.f k bt704.1 bt704.2).bind fun bt712 => (if (bt708.2 != bt712.2) = true then (laws_FnPruning.j0 k l0 bt704.1 bt704.2 bt708.1 bt708.2 true) else ((laws_rArchives.f k bt708.1 bt712.1).bind fun t716 => (laws_FnPruning.j0 k l0 bt704.1 bt704.2 bt708.1 bt708.2 (!t716))))))))) = some r := h
 clear h
 replace H := Option.bind_eq_some_iff.mp H
 obtain ⟨t703, A20, H⟩ := H
 replace H : (if t703 = true then (some true) else ((spec_DrawPruneArchive.f k l0).bind fun bt704 => ((impl_PruneArchive.f k bt704.1 bt704.2).bind fun bt708 => ((spec_PruneArchive.f k bt704.1 bt704.2).bind fun bt712 => (if (bt708.2 != bt712.2) = true then (laws_FnPruning.j0 k l0 bt704.1 bt704.2 bt708.1 bt708.2 true) else ((laws_rArchives.f k bt708.1 bt712.1).bind fun t716 => (laws_FnPruning.j0 k l0 bt704.1 bt704.2 bt708.1 bt708.2 (!t716)))))))) = some r := H
 have A2 := Aside0.mk A20
 clear A20
 by_cases c3 : t703 = true
 ·
  subst c3
  have H1 : (some true) = some r := by rw [if_pos rfl] at H; exact H
  clear H
  have H := H1
  clear H1
  obtain rfl := Option.some.inj H
  go_enter Try.func10, Try.ntmps10
  go_wp2_with (first | ((with_reducible refine gate_callee (f := 39) rfl ?_); refine goesL_ (some 39) rfl rfl Try.func39 (by kernel_rfl) rfl #[.slice A0 l0.length c0] rfl (by (try simp only [List.map_toArray, List.map_cons, List.map_nil]); first | done | rfl | (simp only [List.length_drop, List.length_take]; rfl)) ?_; (with_reducible refine (laws_rBig.calls _ _ l0 true _ ?side1 ?side2 A2.out).mono ?_); (case side1 => repeat (first | exact HR0.out | (with_reducible refine Kd.C_alloc ?_ _) | (with_reducible refine Kd.C_drewN ?_ _) | (with_reducible refine Kd.C_drew ?_))); (case side2 => exact HC0.out); rintro e w' ⟨rfl, ⟨nd, rfl⟩⟩; refine ⟨_, rfl, ?_⟩))
  go_ret
  exact ⟨by first | rfl | (simp [errW_none, errW_some] <;> rfl) | (simp [*, errW_none, errW_some] <;> rfl), by repeat (first | (with_reducible first | exact HB.out | apply below_alloc | apply pw_below_drewN | apply below_drew1) | exact HB.out)⟩
 replace c3 := Bool.eq_false_iff.mpr c3
 subst c3
 have H1 : ((spec_DrawPruneArchive.f k l0).bind fun bt704 => ((impl_PruneArchive.f k bt704.1 bt704.2).bind fun bt708 => ((spec_PruneArchive.f k bt704.1 bt704.2).bind fun bt712 => (if (bt708.2 != bt712.2) = true then (laws_FnPruning.j0 k l0 bt704.1 bt704.2 bt708.1 bt708.2 true) else ((laws_rArchives.f k bt708.1 bt712.1).bind fun t716 => (laws_FnPruning.j0 k l0 bt704.1 bt704.2 bt708.1 bt708.2 (!t716))))))) = some r := by rw [if_neg (show ¬ (false = true) by decide)] at H; exact H
 clear H
 have H := H1
 clear H1
 replace H := Option.bind_eq_some_iff.mp H
 obtain ⟨⟨t704, t705⟩, A40, H⟩ := H
 replace H : ((impl_PruneArchive.f k t704 t705).bind fun bt708 => ((spec_PruneArchive.f k t704 t705).bind fun bt712 => (if (bt708.2 != bt712.2) = true then (laws_FnPruning.j0 k l0 t704 t705 bt708.1 bt708.2 true) else ((laws_rArchives.f k bt708.1 bt712.1).bind fun t716 => (laws_FnPruning.j0 k l0 t704 t705 bt708.1 bt708.2 (!t716)))))) = some r := H
 have A4 := Aside0.mk A40
 clear A40
 replace H := Option.bind_eq_some_iff.mp H
 obtain ⟨⟨t708, t709⟩, A50, H⟩ := H
 replace H : ((spec_PruneArchive.f k t704 t705).bind fun bt712 => (if (t709 != bt712.2) = true then (laws_FnPruning.j0 k l0 t704 t705 t708 t709 true) else ((laws_rArchives.f k t708 bt712.1).bind fun t716 => (laws_FnPruning.j0 k l0 t704 t705 t708 t709 (!t716))))) = some r := H
 have A5 := Aside0.mk A50
 clear A50
 replace H := Option.bind_eq_some_iff.mp H
 obtain ⟨⟨t712, t713⟩, A60, H⟩ := H
 replace H : (if (t709 != t713) = true then (laws_FnPruning.j0 k l0 t704 t705 t708 t709 true) else ((laws_rArchives.f k t708 t712).bind fun t716 => (laws_FnPruning.j0 k l0 t704 t705 t708 t709 (!t716)))) = some r := H
 have A6 := Aside0.mk A60
 clear A60
 have HC7 := Aside0.mk H
 clear H
 go_enter Try.func10, Try.ntmps10
 go_upto_region 6 with (first | ((with_reducible refine gate_callee (f := 39) rfl ?_); refine goesL_ (some 39) rfl rfl Try.func39 (by kernel_rfl) rfl #[.slice A0 l0.length c0] rfl (by (try simp only [List.map_toArray, List.map_cons, List.map_nil]); first | done | rfl | (simp only [List.length_drop, List.length_take]; rfl)) ?_; (with_reducible refine (laws_rBig.calls _ _ l0 false _ ?side1 ?side2 A2.out).mono ?_); (case side1 => repeat (first | exact HR0.out | (with_reducible refine Kd.C_alloc ?_ _) | (with_reducible refine Kd.C_drewN ?_ _) | (with_reducible refine Kd.C_drew ?_))); (case side2 => exact HC0.out); rintro e w' ⟨rfl, ⟨nd, rfl⟩⟩; refine ⟨_, rfl, ?_⟩) | ((with_reducible refine gate_callee (f := 40) rfl ?_); refine goesL_ (some 42) rfl rfl Try.func40 (by kernel_rfl) rfl #[.slice A0 l0.length c0] rfl (by (try simp only [List.map_toArray, List.map_cons, List.map_nil]); first | done | rfl | (simp only [List.length_drop, List.length_take]; rfl)) ?_; (with_reducible refine (spec_DrawPruneArchive.calls k _ _ l0 t704 t705 _ ?side1 ?side2 A4.out).mono ?_); (case side1 => repeat (first | exact HR0.out | (with_reducible refine Kd.C_alloc ?_ _) | (with_reducible refine Kd.C_drewN ?_ _) | (with_reducible refine Kd.C_drew ?_))); (case side2 => exact HC0.out); rintro e w8 ⟨v706, rfl, ho0, hb⟩; refine ⟨_, rfl, ?_⟩; have n0_ := Aside0.mk (Kd.R_lower ho0 (below_size (by repeat (first | (with_reducible first | exact HB.out | apply below_alloc | apply pw_below_drewN | apply below_drew1) | exact HB.out)))); have n1_ := Aside0.mk (below_step (by repeat (first | (with_reducible first | exact HB.out | apply below_alloc | apply pw_below_drewN | apply below_drew1) | exact HB.out)) hb); clear HB; have HO707 := n0_; have HB := n1_; clear n0_ n1_; (try clear hb); (try clear hb2); (try clear hk); (try clear hi); (try clear ho0); obtain ⟨Ao9, co9, eo9⟩ := Kd.R_slice HO707.out; subst eo9) | ((with_reducible refine gate_callee (f := 31) rfl ?_); refine goesL_ (some 48) rfl rfl Try.func31 (by kernel_rfl) rfl #[.slice Ao9 t704.length co9, .int .i64 t705] rfl (by (try simp only [List.map_toArray, List.map_cons, List.map_nil]); first | done | rfl | (simp only [List.length_drop, List.length_take]; rfl)) ?_; (with_reducible refine (impl_PruneArchive.calls k _ _ t704 t705 t708 t709 _ ?side1 ?side2 A5.out).mono ?_); (case side1 => repeat (first | exact (Kd.R_reads' HO707.out).2.2 | (with_reducible refine Kd.C_alloc ?_ _) | (with_reducible refine Kd.C_drewN ?_ _) | (with_reducible refine Kd.C_drew ?_))); (case side2 => exact (Kd.R_reads' HO707.out).2.1); rintro e w10 ⟨v710, rfl, ho0, hb⟩; refine ⟨_, rfl, ?_⟩; have n0_ := Aside0.mk (Kd.R_elder' (by (with_reducible repeat (first | apply Kd.R_alloc | apply Kd.R_drewN | apply Kd.R_drew)); exact HO707.out) (Kd.R_base ho0) hb); have n1_ := Aside0.mk (Kd.R_lower (Kd.R_new' ho0 (Kd.R_lt (by (with_reducible repeat (first | apply Kd.R_alloc | apply Kd.R_drewN | apply Kd.R_drew)); exact HO707.out))) (below_size (by repeat (first | (with_reducible first | exact HB.out | apply below_alloc | apply pw_below_drewN | apply below_drew1) | exact HB.out)))); have n2_ := Aside0.mk (below_step (by repeat (first | (with_reducible first | exact HB.out | apply below_alloc | apply pw_below_drewN | apply below_drew1) | exact HB.out)) hb); clear HO707; clear HB; have HO707 := n0_; have HO711 := n1_; have HB := n2_; clear n0_ n1_ n2_; (try clear hb); (try clear hb2); (try clear hk); (try clear hi); (try clear ho0)) | ((with_reducible refine gate_callee (f := 30) rfl ?_); refine goesL_ (some 54) rfl rfl Try.func30 (by kernel_rfl) rfl #[.slice Ao9 t704.length co9, .int .i64 t705] rfl (by (try simp only [List.map_toArray, List.map_cons, List.map_nil]); first | done | rfl | (simp only [List.length_drop, List.length_take]; rfl)) ?_; (with_reducible refine (spec_PruneArchive.calls k _ _ t704 t705 t712 t713 _ ?side1 ?side2 A6.out).mono ?_); (case side1 => repeat (first | exact (Kd.R_reads' HO707.out).2.2 | (with_reducible refine Kd.C_alloc ?_ _) | (with_reducible refine Kd.C_drewN ?_ _) | (with_reducible refine Kd.C_drew ?_))); (case side2 => exact (Kd.R_reads' HO707.out).2.1); rintro e w11 ⟨v714, rfl, ho0, hb⟩; refine ⟨_, rfl, ?_⟩; have n0_ := Aside0.mk (Kd.R_elder' (by (with_reducible repeat (first | apply Kd.R_alloc | apply Kd.R_drewN | apply Kd.R_drew)); exact HO707.out) (Kd.R_base ho0) hb); have n1_ := Aside0.mk (Kd.R_elder' (by (with_reducible repeat (first | apply Kd.R_alloc | apply Kd.R_drewN | apply Kd.R_drew)); exact HO711.out) (Kd.R_base ho0) hb); have n2_ := Aside0.mk (Kd.R_lower (Kd.R_new' (Kd.R_new' ho0 (Kd.R_lt (by (with_reducible repeat (first | apply Kd.R_alloc | apply Kd.R_drewN | apply Kd.R_drew)); exact HO707.out))) (Kd.R_lt (by (with_reducible repeat (first | apply Kd.R_alloc | apply Kd.R_drewN | apply Kd.R_drew)); exact HO711.out))) (below_size (by repeat (first | (with_reducible first | exact HB.out | apply below_alloc | apply pw_below_drewN | apply below_drew1) | exact HB.out)))); have n3_ := Aside0.mk (below_step (by repeat (first | (with_reducible first | exact HB.out | apply below_alloc | apply pw_below_drewN | apply below_drew1) | exact HB.out)) hb); clear HO707; clear HO711; clear HB; have HO707 := n0_; have HO711 := n1_; have HO715 := n2_; have HB := n3_; clear n0_ n1_ n2_ n3_; (try clear hb); (try clear hb2); (try clear hk); (try clear hi); (try clear ho0)))
 (try simp only [Act.put, List.setIfInBounds_toArray, List.set_cons_zero, List.set_cons_succ])
 go_cut [65] (fun v65 wc => ∃ (kq : Nat) (x65_6 : Bool), v65 = .bool x65_6 ∧ Aside0 (laws_FnPruning.j0 kq l0 t704 t705 t708 t709 x65_6 = some r) ∧ Aside0 (kq ≤ k) ∧ Aside0 (Kd.R k30 30 wc w.heap.size (fun k_ => some k_ ≠ (v710 : Value).ownBlock) (.slice Ao9 t704.length co9) t704) ∧ Aside0 (Kd.R k30 30 wc w.heap.size (fun k_ => some k_ ≠ ((.slice Ao9 t704.length co9) : Value).ownBlock) v710 t708) ∧ Aside0 (Below w.heap.size w wc))
 case first =>
  as_aux_lemma =>
   have H := HC7.out
   clear HC7
   by_cases c12 : (t709 != t713) = true
   ·
    rw [if_pos c12] at H
    have c12b0 : (t709 != t713) = true := c12
    (try (have c12b1 : decide (t709 = t713) = false := by simpa using c12))
    (try (have c12b2 : (t709 == t713) = false := by simpa using c12))
    (try (have c12b3 : ¬ (t709 = t713) := by simpa using c12))
    clear c12
    (first | rw [c12b0] | (simp only [i64_w, i32_w]; rw [c12b0]) | skip)
    have H' := Aside0.mk H
    clear H
    go_wp2
    go_meet
    case rel => exact ⟨_, (true), (by first | rfl | (simp; done) | (simp [*]; done)), H', ⟨by first | omega | exact Nat.le_refl _⟩, ⟨by (with_reducible repeat (first | apply Kd.R_alloc | apply Kd.R_drewN | apply Kd.R_drew)); exact Kd.R_mono HO707.out (fun _ hk => hk.1.2)⟩, ⟨by (with_reducible repeat (first | apply Kd.R_alloc | apply Kd.R_drewN | apply Kd.R_drew)); exact Kd.R_mono HO711.out (fun _ hk => hk.1.2)⟩, ⟨by repeat (first | (with_reducible first | exact HB.out | apply below_alloc | apply pw_below_drewN | apply below_drew1) | exact HB.out)⟩⟩
   rw [if_neg c12] at H
   have c12b0 : (t709 != t713) = false := by simpa using c12
   (try (have c12b1 : decide (t709 = t713) = true := by simpa using c12))
   (try (have c12b2 : (t709 == t713) = true := by simpa using c12))
   clear c12
   (first | rw [c12b0] | (simp only [i64_w, i32_w]; rw [c12b0]) | skip)
   replace H := Option.bind_eq_some_iff.mp H
   obtain ⟨t716, A130, H⟩ := H
   replace H : (laws_FnPruning.j0 k l0 t704 t705 t708 t709 (!t716)) = some r := H
   have A13 := Aside0.mk A130
   clear A130
   have H' := Aside0.mk H
   clear H
   obtain ⟨Ao14, co14, eo14⟩ := Kd.R_slice HO711.out
   subst eo14
   obtain ⟨Ao15, co15, eo15⟩ := Kd.R_slice HO715.out
   subst eo15
   go_wp2_with (first | (go_at_call 41; (with_reducible refine (laws_rArchives.calls k _ _ t708 _ _ t712 t716 _ ?side1 ?side2 ?side3 ?side4 A13.out).mono ?_); (case side1 => repeat (first | exact (Kd.R_reads' HO711.out).2.2 | (with_reducible refine Kd.C_alloc ?_ _) | (with_reducible refine Kd.C_drewN ?_ _) | (with_reducible refine Kd.C_drew ?_))); (case side2 => exact (Kd.R_reads' HO711.out).2.1); (case side3 => repeat (first | exact (Kd.R_reads' HO715.out).2.2 | (with_reducible refine Kd.C_alloc ?_ _) | (with_reducible refine Kd.C_drewN ?_ _) | (with_reducible refine Kd.C_drew ?_))); (case side4 => exact (Kd.R_reads' HO715.out).2.1); rintro e w' ⟨rfl, ⟨nd, rfl⟩⟩))
   go_meet
   case rel => exact ⟨_, (!t716), (by first | rfl | (simp; done) | (simp [*]; done)), H', ⟨by first | omega | exact Nat.le_refl _⟩, ⟨by (with_reducible repeat (first | apply Kd.R_alloc | apply Kd.R_drewN | apply Kd.R_drew)); exact Kd.R_mono HO707.out (fun _ hk => hk.1.2)⟩, ⟨by (with_reducible repeat (first | apply Kd.R_alloc | apply Kd.R_drewN | apply Kd.R_drew)); exact Kd.R_mono HO711.out (fun _ hk => hk.1.2)⟩, ⟨by repeat (first | (with_reducible first | exact HB.out | apply below_alloc | apply pw_below_drewN | apply below_drew1) | exact HB.out)⟩⟩
 case rest =>
  as_aux_lemma =>
   clear HC7
   try clear c1
   try clear p2
   try clear c3
   try clear c4
   try clear c10
   try clear c12
   try clear c12b0
   try clear c12b1
   try clear c12b2
   obtain ⟨kq, x65_6, rfl, HA, HJ6, HO_3, HO_5, HB⟩ := hcut
   cases kq with
   | zero => exact absurd HA.out (by simp [laws_FnPruning.j0])
   | succ kj6 =>
    have H := HA.out
    clear HA
    simp only [laws_FnPruning.j0] at H
    by_cases c16 : x65_6 = true
    ·
     subst c16
     have H1 : (some false) = some r := by rw [if_pos rfl] at H; exact H
     exact absurd ((Option.some.inj H1).trans hrt_) (by decide)
    replace c16 := Bool.eq_false_iff.mpr c16
    subst c16
    have H1 : ((impl_NamesOf.f kj6 t704).bind fun bt717 => ((spec_NamesOf.f kj6 t704).bind fun bt721 => (if (bt717.2 != bt721.2) = true then (laws_FnPruning.j1 kj6 l0 t704 t705 t708 t709 bt717.1 true) else ((laws_rTexts.f kj6 bt717.1 bt721.1).bind fun t725 => (laws_FnPruning.j1 kj6 l0 t704 t705 t708 t709 bt717.1 (!t725)))))) = some r := by rw [if_neg (show ¬ (false = true) by decide)] at H; exact H
    clear H
    have H := H1
    clear H1
    replace H := Option.bind_eq_some_iff.mp H
    obtain ⟨⟨t717, t718⟩, A170, H⟩ := H
    replace H : ((spec_NamesOf.f kj6 t704).bind fun bt721 => (if (t718 != bt721.2) = true then (laws_FnPruning.j1 kj6 l0 t704 t705 t708 t709 t717 true) else ((laws_rTexts.f kj6 t717 bt721.1).bind fun t725 => (laws_FnPruning.j1 kj6 l0 t704 t705 t708 t709 t717 (!t725))))) = some r := H
    have A17 := Aside0.mk A170
    clear A170
    replace H := Option.bind_eq_some_iff.mp H
    obtain ⟨⟨t721, t722⟩, A180, H⟩ := H
    replace H : (if (t718 != t722) = true then (laws_FnPruning.j1 kj6 l0 t704 t705 t708 t709 t717 true) else ((laws_rTexts.f kj6 t717 t721).bind fun t725 => (laws_FnPruning.j1 kj6 l0 t704 t705 t708 t709 t717 (!t725)))) = some r := H
    have A18 := Aside0.mk A180
    clear A180
    have HC19 := Aside0.mk H
    clear H
    go_upto_region 10 with (first | ((with_reducible refine gate_callee (f := 26) rfl ?_); refine goesL_ (some 68) rfl rfl Try.func26 (by kernel_rfl) rfl #[.slice Ao9 t704.length co9] rfl (by (try simp only [List.map_toArray, List.map_cons, List.map_nil]); first | done | rfl | (simp only [List.length_drop, List.length_take]; rfl)) ?_; (with_reducible refine (impl_NamesOf.calls kj6 _ _ t704 t717 t718 _ ?side1 ?side2 A17.out).mono ?_); (case side1 => repeat (first | exact (Kd.R_reads' HO_3.out).2.2 | (with_reducible refine Kd.C_alloc ?_ _) | (with_reducible refine Kd.C_drewN ?_ _) | (with_reducible refine Kd.C_drew ?_))); (case side2 => exact (Kd.R_reads' HO_3.out).2.1); rintro e w20 ⟨v719, rfl, ho0, hb⟩; refine ⟨_, rfl, ?_⟩; have n0_ := Aside0.mk (Kd.R_below (by (with_reducible repeat (first | apply Kd.R_alloc | apply Kd.R_drewN | apply Kd.R_drew)); exact HO_3.out) hb); have n1_ := Aside0.mk (Kd.R_below (by (with_reducible repeat (first | apply Kd.R_alloc | apply Kd.R_drewN | apply Kd.R_drew)); exact HO_5.out) hb); have n2_ := Aside0.mk (Kd.R_lower ho0 (below_size (by repeat (first | (with_reducible first | exact HB.out | apply below_alloc | apply pw_below_drewN | apply below_drew1) | exact HB.out)))); have n3_ := Aside0.mk (below_step (by repeat (first | (with_reducible first | exact HB.out | apply below_alloc | apply pw_below_drewN | apply below_drew1) | exact HB.out)) hb); clear HO_3; clear HO_5; clear HB; have HO_3 := n0_; have HO_5 := n1_; have HO720 := n2_; have HB := n3_; clear n0_ n1_ n2_ n3_; (try clear hb); (try clear hb2); (try clear hk); (try clear hi); (try clear ho0)) | ((with_reducible refine gate_callee (f := 25) rfl ?_); refine goesL_ (some 73) rfl rfl Try.func25 (by kernel_rfl) rfl #[.slice Ao9 t704.length co9] rfl (by (try simp only [List.map_toArray, List.map_cons, List.map_nil]); first | done | rfl | (simp only [List.length_drop, List.length_take]; rfl)) ?_; (with_reducible refine (spec_NamesOf.calls kj6 _ _ t704 t721 t722 _ ?side1 ?side2 A18.out).mono ?_); (case side1 => repeat (first | exact (Kd.R_reads' HO_3.out).2.2 | (with_reducible refine Kd.C_alloc ?_ _) | (with_reducible refine Kd.C_drewN ?_ _) | (with_reducible refine Kd.C_drew ?_))); (case side2 => exact (Kd.R_reads' HO_3.out).2.1); rintro e w21 ⟨v723, rfl, ho0, hb⟩; refine ⟨_, rfl, ?_⟩; have n0_ := Aside0.mk (Kd.R_below (by (with_reducible repeat (first | apply Kd.R_alloc | apply Kd.R_drewN | apply Kd.R_drew)); exact HO_3.out) hb); have n1_ := Aside0.mk (Kd.R_below (by (with_reducible repeat (first | apply Kd.R_alloc | apply Kd.R_drewN | apply Kd.R_drew)); exact HO_5.out) hb); have n2_ := Aside0.mk (Kd.R_elder' (by (with_reducible repeat (first | apply Kd.R_alloc | apply Kd.R_drewN | apply Kd.R_drew)); exact HO720.out) (Kd.R_base ho0) hb); have n3_ := Aside0.mk (Kd.R_lower (Kd.R_new' ho0 (Kd.R_lt (by (with_reducible repeat (first | apply Kd.R_alloc | apply Kd.R_drewN | apply Kd.R_drew)); exact HO720.out))) (below_size (by repeat (first | (with_reducible first | exact HB.out | apply below_alloc | apply pw_below_drewN | apply below_drew1) | exact HB.out)))); have n4_ := Aside0.mk (below_step (by repeat (first | (with_reducible first | exact HB.out | apply below_alloc | apply pw_below_drewN | apply below_drew1) | exact HB.out)) hb); clear HO_3; clear HO_5; clear HO720; clear HB; have HO_3 := n0_; have HO_5 := n1_; have HO720 := n2_; have HO724 := n3_; have HB := n4_; clear n0_ n1_ n2_ n3_ n4_; (try clear hb); (try clear hb2); (try clear hk); (try clear hi); (try clear ho0)))
    (try simp only [Act.put, List.setIfInBounds_toArray, List.set_cons_zero, List.set_cons_succ])
    go_cut [84] (fun v84 wc => ∃ (kq : Nat) (x84_18 : Bool), v84 = .bool x84_18 ∧ Aside0 (laws_FnPruning.j1 kq l0 t704 t705 t708 t709 t717 x84_18 = some r) ∧ Aside0 (kq ≤ kj6) ∧ Aside0 (Kd.R k30 30 wc w.heap.size (fun k_ => some k_ ≠ (v710 : Value).ownBlock) (.slice Ao9 t704.length co9) t704) ∧ Aside0 (Kd.R k30 30 wc w.heap.size (fun k_ => some k_ ≠ ((.slice Ao9 t704.length co9) : Value).ownBlock) v710 t708) ∧ Aside0 (Kd.R Kd.string 9 wc w.heap.size (fun _ => True) v719 t717) ∧ Aside0 (Below w.heap.size w wc))
    case first =>
     as_aux_lemma =>
      have H := HC19.out
      clear HC19
      by_cases c22 : (t718 != t722) = true
      ·
       rw [if_pos c22] at H
       have c22b0 : (t718 != t722) = true := c22
       (try (have c22b1 : decide (t718 = t722) = false := by simpa using c22))
       (try (have c22b2 : (t718 == t722) = false := by simpa using c22))
       (try (have c22b3 : ¬ (t718 = t722) := by simpa using c22))
       clear c22
       (first | rw [c22b0] | (simp only [i64_w, i32_w]; rw [c22b0]) | skip)
       have H' := Aside0.mk H
       clear H
       go_wp2
       go_meet
       case rel => exact ⟨_, (true), (by first | rfl | (simp; done) | (simp [*]; done)), H', ⟨by have := HJ6.out; first | omega | exact Nat.le_refl _⟩, ⟨by (with_reducible repeat (first | apply Kd.R_alloc | apply Kd.R_drewN | apply Kd.R_drew)); exact HO_3.out⟩, ⟨by (with_reducible repeat (first | apply Kd.R_alloc | apply Kd.R_drewN | apply Kd.R_drew)); exact HO_5.out⟩, ⟨by (with_reducible repeat (first | apply Kd.R_alloc | apply Kd.R_drewN | apply Kd.R_drew)); exact Kd.R_mono HO720.out (fun _ hk => trivial)⟩, ⟨by repeat (first | (with_reducible first | exact HB.out | apply below_alloc | apply pw_below_drewN | apply below_drew1) | exact HB.out)⟩⟩
      rw [if_neg c22] at H
      have c22b0 : (t718 != t722) = false := by simpa using c22
      (try (have c22b1 : decide (t718 = t722) = true := by simpa using c22))
      (try (have c22b2 : (t718 == t722) = true := by simpa using c22))
      clear c22
      (first | rw [c22b0] | (simp only [i64_w, i32_w]; rw [c22b0]) | skip)
      replace H := Option.bind_eq_some_iff.mp H
      obtain ⟨t725, A230, H⟩ := H
      replace H : (laws_FnPruning.j1 kj6 l0 t704 t705 t708 t709 t717 (!t725)) = some r := H
      have A23 := Aside0.mk A230
      clear A230
      have H' := Aside0.mk H
      clear H
      obtain ⟨Ao24, co24, eo24⟩ := Kd.R_slice HO720.out
      subst eo24
      obtain ⟨Ao25, co25, eo25⟩ := Kd.R_slice HO724.out
      subst eo25
      go_wp2_with (first | (go_at_call 42; (with_reducible refine (laws_rTexts.calls kj6 _ _ t717 _ _ t721 t725 _ ?side1 ?side2 ?side3 ?side4 A23.out).mono ?_); (case side1 => repeat (first | exact (Kd.R_reads' HO720.out).2.2 | (with_reducible refine Kd.C_alloc ?_ _) | (with_reducible refine Kd.C_drewN ?_ _) | (with_reducible refine Kd.C_drew ?_))); (case side2 => exact (Kd.R_reads' HO720.out).2.1); (case side3 => repeat (first | exact (Kd.R_reads' HO724.out).2.2 | (with_reducible refine Kd.C_alloc ?_ _) | (with_reducible refine Kd.C_drewN ?_ _) | (with_reducible refine Kd.C_drew ?_))); (case side4 => exact (Kd.R_reads' HO724.out).2.1); rintro e w' ⟨rfl, ⟨nd, rfl⟩⟩))
      go_meet
      case rel => exact ⟨_, (!t725), (by first | rfl | (simp; done) | (simp [*]; done)), H', ⟨by have := HJ6.out; first | omega | exact Nat.le_refl _⟩, ⟨by (with_reducible repeat (first | apply Kd.R_alloc | apply Kd.R_drewN | apply Kd.R_drew)); exact HO_3.out⟩, ⟨by (with_reducible repeat (first | apply Kd.R_alloc | apply Kd.R_drewN | apply Kd.R_drew)); exact HO_5.out⟩, ⟨by (with_reducible repeat (first | apply Kd.R_alloc | apply Kd.R_drewN | apply Kd.R_drew)); exact Kd.R_mono HO720.out (fun _ hk => trivial)⟩, ⟨by repeat (first | (with_reducible first | exact HB.out | apply below_alloc | apply pw_below_drewN | apply below_drew1) | exact HB.out)⟩⟩
    case rest =>
     as_aux_lemma =>
      clear HC19
      try clear c1
      try clear c2
      try clear p2
      try clear c3
      try clear c4
      try clear c10
      try clear c12
      try clear c12b0
      try clear c12b1
      try clear c12b2
      try clear c16
      try clear c22
      try clear c22b0
      try clear c22b1
      try clear c22b2
      try clear c25
      try clear p2
      obtain ⟨kq, x84_18, rfl, HA, HJ18, HO_3, HO_5, HO_9, HB⟩ := hcut
      cases kq with
      | zero => exact absurd HA.out (by simp [laws_FnPruning.j1])
      | succ kj18 =>
       have H := HA.out
       clear HA
       simp only [laws_FnPruning.j1] at H
       by_cases c26 : x84_18 = true
       ·
        subst c26
        have H1 : (some false) = some r := by rw [if_pos rfl] at H; exact H
        exact absurd ((Option.some.inj H1).trans hrt_) (by decide)
       replace c26 := Bool.eq_false_iff.mpr c26
       subst c26
       have H1 : (laws_FnPruning.l0 kj18 l0 t704 t705 t708 t709 t717 0) = some r := by rw [if_neg (show ¬ (false = true) by decide)] at H; exact H
       clear H
       have H := H1
       clear H1
       have H' := Aside0.mk H
       clear H
       go_wp2
       go_loopg [13] kj18 (fun kq v13 w' => ∃ (x13_3 : Int), v13 = .int .i64 x13_3 ∧ Aside0 (laws_FnPruning.l0 kq l0 t704 t705 t708 t709 t717 x13_3 = some r) ∧ Aside0 (kq ≤ kj18) ∧ Aside0 (Kd.R k30 30 w' w.heap.size (fun k_ => some k_ ≠ (v710 : Value).ownBlock) (.slice Ao9 t704.length co9) t704) ∧ Aside0 (Kd.R k30 30 w' w.heap.size (fun k_ => some k_ ≠ ((.slice Ao9 t704.length co9) : Value).ownBlock) v710 t708) ∧ Aside0 (Kd.R Kd.string 9 w' w.heap.size (fun _ => True) v719 t717) ∧ Aside0 (Below w.heap.size w w'))
       case atStart => exact ⟨(0), (by first | rfl | (simp; done) | (simp [*]; done)), H', ⟨Nat.le_refl _⟩, ⟨by (with_reducible repeat (first | apply Kd.R_alloc | apply Kd.R_drewN | apply Kd.R_drew)); exact HO_3.out⟩, ⟨by (with_reducible repeat (first | apply Kd.R_alloc | apply Kd.R_drewN | apply Kd.R_drew)); exact HO_5.out⟩, ⟨by (with_reducible repeat (first | apply Kd.R_alloc | apply Kd.R_drewN | apply Kd.R_drew)); exact HO_9.out⟩, ⟨by repeat (first | (with_reducible first | exact HB.out | apply below_alloc | apply pw_below_drewN | apply below_drew1) | exact HB.out)⟩⟩
       case round =>
        as_aux_lemma =>
         clear H'
         try clear c1
         try clear c2
         try clear p2
         try clear c3
         try clear c4
         try clear c10
         try clear c12
         try clear c12b0
         try clear c12b1
         try clear c12b2
         try clear c16
         try clear c22
         try clear c22b0
         try clear c22b1
         try clear c22b2
         try clear c25
         try clear c26
         try clear p2
         obtain ⟨x13_3, rfl, HA, HK3, HO_3, HO_5, HO_9, HB⟩ := hrel
         cases gk with
         | zero => exact absurd HA.out (by simp [laws_FnPruning.l0])
         | succ k3 =>
          have H := HA.out
          clear HA
          simp only [laws_FnPruning.l0] at H
          have HC27 := Aside0.mk H
          clear H
          go_upto_region 13 with (fail)
          go_cut [91] (fun v91 wc => ∃ (kq : Nat) (x91_26 : Bool), v91 = .bool x91_26 ∧ Aside0 (laws_FnPruning.j3 kq l0 t704 t705 t708 t709 t717 x13_3 x91_26 = some r) ∧ Aside0 (kq ≤ k3) ∧ Aside0 (Kd.R k30 30 wc w.heap.size (fun k_ => some k_ ≠ (v710 : Value).ownBlock) (.slice Ao9 t704.length co9) t704) ∧ Aside0 (Kd.R k30 30 wc w.heap.size (fun k_ => some k_ ≠ ((.slice Ao9 t704.length co9) : Value).ownBlock) v710 t708) ∧ Aside0 (Kd.R Kd.string 9 wc w.heap.size (fun _ => True) v719 t717) ∧ Aside0 (Below w.heap.size w wc))
          case first =>
           as_aux_lemma =>
            have H := HC27.out
            clear HC27
            by_cases c28 : x13_3 < (t717.length : Int)
            ·
             rw [if_pos c28] at H
             have c28b0 : decide (x13_3 < (t717.length : Int)) = true := decide_eq_true c28
             clear c28
             (first | rw [c28b0] | (simp only [i64_w, i32_w]; rw [c28b0]) | skip)
             have H' := Aside0.mk H
             clear H
             obtain ⟨Ao29, co29, eo29⟩ := Kd.R_slice HO_9.out
             subst eo29
             go_wp2
             go_meet
             case rel => exact ⟨_, (t709), (by first | rfl | (simp; done) | (simp [*]; done)), H', ⟨by have := HJ6.out; have := HJ18.out; have := HK3.out; first | omega | exact Nat.le_refl _⟩, ⟨by (with_reducible repeat (first | apply Kd.R_alloc | apply Kd.R_drewN | apply Kd.R_drew)); exact HO_3.out⟩, ⟨by (with_reducible repeat (first | apply Kd.R_alloc | apply Kd.R_drewN | apply Kd.R_drew)); exact HO_5.out⟩, ⟨by (with_reducible repeat (first | apply Kd.R_alloc | apply Kd.R_drewN | apply Kd.R_drew)); exact HO_9.out⟩, ⟨by repeat (first | (with_reducible first | exact HB.out | apply below_alloc | apply pw_below_drewN | apply below_drew1) | exact HB.out)⟩⟩
            rw [if_neg c28] at H
            have c28b0 : decide (x13_3 < (t717.length : Int)) = false := decide_eq_false c28
            clear c28
            (first | rw [c28b0] | (simp only [i64_w, i32_w]; rw [c28b0]) | skip)
            have H' := Aside0.mk H
            clear H
            obtain ⟨Ao30, co30, eo30⟩ := Kd.R_slice HO_9.out
            subst eo30
            go_wp2
            go_meet
            case rel => exact ⟨_, (false), (by first | rfl | (simp; done) | (simp [*]; done)), H', ⟨by have := HJ6.out; have := HJ18.out; have := HK3.out; first | omega | exact Nat.le_refl _⟩, ⟨by (with_reducible repeat (first | apply Kd.R_alloc | apply Kd.R_drewN | apply Kd.R_drew)); exact HO_3.out⟩, ⟨by (with_reducible repeat (first | apply Kd.R_alloc | apply Kd.R_drewN | apply Kd.R_drew)); exact HO_5.out⟩, ⟨by (with_reducible repeat (first | apply Kd.R_alloc | apply Kd.R_drewN | apply Kd.R_drew)); exact HO_9.out⟩, ⟨by repeat (first | (with_reducible first | exact HB.out | apply below_alloc | apply pw_below_drewN | apply below_drew1) | exact HB.out)⟩⟩
          case rest =>
           as_aux_lemma =>
            clear HC27
            try clear c1
            try clear c2
            try clear p2
            try clear c3
            try clear c4
            try clear c10
            try clear c12
            try clear c12b0
            try clear c12b1
            try clear c12b2
            try clear c16
            try clear c22
            try clear c22b0
            try clear c22b1
            try clear c22b2
            try clear c25
            try clear c26
            try clear c28
            try clear c28b0
            try clear c30
            try clear p2
            obtain ⟨kq, x91_26, rfl, HA, HJ26, HO_3, HO_5, HO_9, HB⟩ := hcut
            cases kq with
            | zero => exact absurd HA.out (by simp [laws_FnPruning.j3])
            | succ kj26 =>
             have H := HA.out
             clear HA
             simp only [laws_FnPruning.j3] at H
             by_cases c31 : x91_26 = true
             ·
              subst c31
              have H1 : (laws_FnPruning.l1 kj26 l0 t704 t705 t708 t709 t717 x13_3 t705) = some r := by rw [if_pos rfl] at H; exact H
              clear H
              have H := H1
              clear H1
              have H' := Aside0.mk H
              clear H
              go_wp2
              go_loopg [14] kj26 (fun kq v14 w' => ∃ (x14_5 : Int), v14 = .int .i64 x14_5 ∧ Aside0 (laws_FnPruning.l1 kq l0 t704 t705 t708 t709 t717 x13_3 x14_5 = some r) ∧ Aside0 (kq ≤ kj26) ∧ Aside0 (Kd.R k30 30 w' w.heap.size (fun k_ => some k_ ≠ (v710 : Value).ownBlock) (.slice Ao9 t704.length co9) t704) ∧ Aside0 (Kd.R k30 30 w' w.heap.size (fun k_ => some k_ ≠ ((.slice Ao9 t704.length co9) : Value).ownBlock) v710 t708) ∧ Aside0 (Kd.R Kd.string 9 w' w.heap.size (fun _ => True) v719 t717) ∧ Aside0 (Below w.heap.size w w'))
              case atStart => exact ⟨(t705), (by first | rfl | (simp; done) | (simp [*]; done)), H', ⟨Nat.le_refl _⟩, ⟨by (with_reducible repeat (first | apply Kd.R_alloc | apply Kd.R_drewN | apply Kd.R_drew)); exact HO_3.out⟩, ⟨by (with_reducible repeat (first | apply Kd.R_alloc | apply Kd.R_drewN | apply Kd.R_drew)); exact HO_5.out⟩, ⟨by (with_reducible repeat (first | apply Kd.R_alloc | apply Kd.R_drewN | apply Kd.R_drew)); exact HO_9.out⟩, ⟨by repeat (first | (with_reducible first | exact HB.out | apply below_alloc | apply pw_below_drewN | apply below_drew1) | exact HB.out)⟩⟩
              case round =>
               as_aux_lemma =>
                clear H'
                try clear c1
                try clear c2
                try clear p2
                try clear c3
                try clear c4
                try clear c10
                try clear c12
                try clear c12b0
                try clear c12b1
                try clear c12b2
                try clear c16
                try clear c22
                try clear c22b0
                try clear c22b1
                try clear c22b2
                try clear c25
                try clear c26
                try clear c28
                try clear c28b0
                try clear c30
                try clear c31
                try clear p2
                obtain ⟨x14_5, rfl, HA, HK5, HO_3, HO_5, HO_9, HB⟩ := hrel
                cases gk with
                | zero => exact absurd HA.out (by simp [laws_FnPruning.l1])
                | succ k5 =>
                 have H := HA.out
                 clear HA
                 simp only [laws_FnPruning.l1] at H
                 by_cases c32 : x14_5 ≤ 240
                 rotate_left
                 ·
                  rw [if_neg c32] at H
                  have c32b0 : decide (x14_5 ≤ 240) = false := decide_eq_false c32
                  clear c32
                  have H' := Aside0.mk H
                  clear H
                  go_wp2
                  go_roundg k5
                  case measure => have := HJ6.out; have := HJ18.out; have := HK3.out; have := HJ26.out; have := HK5.out; omega
                  case rel => exact ⟨(wrap64 (x13_3 + 1)), (by first | rfl | (simp; done) | (simp [*]; done)), H', ⟨by have := HJ6.out; have := HJ18.out; have := HK3.out; have := HJ26.out; have := HK5.out; omega⟩, ⟨by (with_reducible repeat (first | apply Kd.R_alloc | apply Kd.R_drewN | apply Kd.R_drew)); exact HO_3.out⟩, ⟨by (with_reducible repeat (first | apply Kd.R_alloc | apply Kd.R_drewN | apply Kd.R_drew)); exact HO_5.out⟩, ⟨by (with_reducible repeat (first | apply Kd.R_alloc | apply Kd.R_drewN | apply Kd.R_drew)); exact HO_9.out⟩, ⟨by repeat (first | (with_reducible first | exact HB.out | apply below_alloc | apply pw_below_drewN | apply below_drew1) | exact HB.out)⟩⟩
                 rw [if_pos c32] at H
                 have c32b0 : decide (x14_5 ≤ 240) = true := decide_eq_true c32
                 clear c32
                 by_cases c33 : 0 ≤ x13_3
                 rotate_left
                 ·
                  rw [if_neg c33] at H
                  exact absurd H (by simp)
                 rw [if_pos c33] at H
                 have c33b0 : decide (0 ≤ x13_3) = true := decide_eq_true c33
                 clear c33
                 by_cases c34 : x13_3 < (t717.length : Int)
                 rotate_left
                 ·
                  rw [if_neg c34] at H
                  exact absurd H (by simp)
                 rw [if_pos c34] at H
                 have c34b0 : decide (x13_3 < (t717.length : Int)) = true := decide_eq_true c34
                 clear c34
                 replace H := Option.bind_eq_some_iff.mp H
                 obtain ⟨⟨t727, t728, t729, t730⟩, A350, H⟩ := H
                 replace H : ((impl_ValidProduct.f k5 t708 (rdOf ByteArray.empty t717 x13_3) x14_5).bind fun bt733 => (if (t730 != bt733.2.2.2) = true then (some false) else (if (!(t727.toList == bt733.1.toList) || (!(t728 == bt733.2.1) || (!(t729.toList == bt733.2.2.1.toList)))) = true then (some false) else (laws_FnPruning.l1 k5 l0 t704 t705 t708 t709 t717 x13_3 (wrap64 (x14_5 + 30)))))) = some r := H
                 have A35 := Aside0.mk A350
                 clear A350
                 replace H := Option.bind_eq_some_iff.mp H
                 obtain ⟨⟨t733, t734, t735, t736⟩, A360, H⟩ := H
                 replace H : (if (t730 != t736) = true then (some false) else (if (!(t727.toList == t733.toList) || (!(t728 == t734) || (!(t729.toList == t735.toList)))) = true then (some false) else (laws_FnPruning.l1 k5 l0 t704 t705 t708 t709 t717 x13_3 (wrap64 (x14_5 + 30))))) = some r := H
                 have A36 := Aside0.mk A360
                 clear A360
                 by_cases c37 : (t730 != t736) = true
                 ·
                  rw [if_pos c37] at H
                  have c37b0 : (t730 != t736) = true := c37
                  (try (have c37b1 : decide (t730 = t736) = false := by simpa using c37))
                  (try (have c37b2 : (t730 == t736) = false := by simpa using c37))
                  (try (have c37b3 : ¬ (t730 = t736) := by simpa using c37))
                  clear c37
                  exact absurd ((Option.some.inj H).trans hrt_) (by decide)
                 rw [if_neg c37] at H
                 have c37b0 : (t730 != t736) = false := by simpa using c37
                 (try (have c37b1 : decide (t730 = t736) = true := by simpa using c37))
                 (try (have c37b2 : (t730 == t736) = true := by simpa using c37))
                 clear c37
                 by_cases c47 : (!(t727.toList == t733.toList) || (!(t728 == t734) || (!(t729.toList == t735.toList)))) = true
                 ·
                  rw [if_pos c47] at H
                  have c47b0 : (!(t727.toList == t733.toList) || (!(t728 == t734) || (!(t729.toList == t735.toList)))) = true := c47
                  clear c47
                  exact absurd ((Option.some.inj H).trans hrt_) (by decide)
                 rw [if_neg c47] at H
                 have c47b0 : (!(t727.toList == t733.toList) || (!(t728 == t734) || (!(t729.toList == t735.toList)))) = false := by simpa using c47
                 clear c47
                 have H' := Aside0.mk H
                 clear H
                 obtain ⟨Ao58, co58, eo58⟩ := Kd.R_slice HO_9.out
                 subst eo58
                 have p726 : 0 ≤ (x13_3 : Int) := of_decide_eq_true (by first | (with_reducible assumption) | assumption)
                 have q726 : x13_3 < (t717.length : Int) := of_decide_eq_true (by first | (with_reducible assumption) | assumption)
                 obtain ⟨ad726, e726, hx726_0⟩ := Kd.at_string (Kd.R_reads' HO_9.out).2.2 x13_3 p726 q726
                 cases e726
                 replace p726 := eq_true p726
                 replace q726 := eq_true q726
                 go_wp2_with (first | ((with_reducible refine gate_callee (f := 17) rfl ?_); refine goesL_ (some 106) rfl rfl Try.func17 (by kernel_rfl) rfl #[.slice Ao9 t704.length co9, .string (rdOf ByteArray.empty t717 x13_3), .int .i64 x14_5] rfl (by (try simp only [List.map_toArray, List.map_cons, List.map_nil]); first | done | rfl | (simp only [List.length_drop, List.length_take]; rfl)) ?_; (with_reducible refine (impl_ValidProduct.calls k5 _ _ t704 (rdOf ByteArray.empty t717 x13_3) x14_5 t727 t728 t729 t730 _ ?side1 ?side2 A35.out).mono ?_); (case side1 => repeat (first | exact (Kd.R_reads' HO_3.out).2.2 | (with_reducible refine Kd.C_alloc ?_ _) | (with_reducible refine Kd.C_drewN ?_ _) | (with_reducible refine Kd.C_drew ?_))); (case side2 => exact (Kd.R_reads' HO_3.out).2.1); rintro e w59 ⟨rfl, hb⟩; refine ⟨_, rfl, ?_⟩; have n0_ := Aside0.mk (Kd.R_below (by (with_reducible repeat (first | apply Kd.R_alloc | apply Kd.R_drewN | apply Kd.R_drew)); exact HO_3.out) hb); have n1_ := Aside0.mk (Kd.R_below (by (with_reducible repeat (first | apply Kd.R_alloc | apply Kd.R_drewN | apply Kd.R_drew)); exact HO_5.out) hb); have n2_ := Aside0.mk (Kd.R_below (by (with_reducible repeat (first | apply Kd.R_alloc | apply Kd.R_drewN | apply Kd.R_drew)); exact HO_9.out) hb); have n3_ := Aside0.mk (below_step (by repeat (first | (with_reducible first | exact HB.out | apply below_alloc | apply pw_below_drewN | apply below_drew1) | exact HB.out)) hb); clear HO_3; clear HO_5; clear HO_9; clear HB; have HO_3 := n0_; have HO_5 := n1_; have HO_9 := n2_; have HB := n3_; clear n0_ n1_ n2_ n3_; (try clear hb); (try clear hb2); (try clear hk); (try clear hi)) | ((with_reducible refine gate_dst (N := 15) rfl ?_); refine box_event ?hg (N := 15) ?hd (cs := #[.string (⟨#[]⟩ : ByteArray), .int .i64 0, .string (⟨#[]⟩ : ByteArray)]) (t := 30) ?hr ?_; (case hd => rfl); (case hg => rfl); (case hr => first | (go_simp; done) | (go_simp; rfl)); intro gb731 hg w60 hbox hb; have n0_ := Aside0.mk (Kd.R_below (Kd.R_elderB (by (with_reducible repeat (first | apply Kd.R_alloc | apply Kd.R_drewN | apply Kd.R_drew)); exact HO_3.out) gb731 (Nat.le_of_eq hg.symm)) hb); have n1_ := Aside0.mk (Kd.R_below (Kd.R_elderB (by (with_reducible repeat (first | apply Kd.R_alloc | apply Kd.R_drewN | apply Kd.R_drew)); exact HO_5.out) gb731 (Nat.le_of_eq hg.symm)) hb); have n2_ := Aside0.mk (Kd.R_below (by (with_reducible repeat (first | apply Kd.R_alloc | apply Kd.R_drewN | apply Kd.R_drew)); exact HO_9.out) hb); have n3_ := Aside0.mk (below_step (by repeat (first | (with_reducible first | exact HB.out | apply below_alloc | apply pw_below_drewN | apply below_drew1) | exact HB.out)) hb); have n4_ := Aside0.mk (hbox); have n5_ := Aside0.mk ((by rw [hg]; exact (below_size (by repeat (first | (with_reducible first | exact HB.out | apply below_alloc | apply pw_below_drewN | apply below_drew1) | exact HB.out))) : w.heap.size ≤ gb731)); have n6_ := Aside0.mk ((by rw [hg]; exact (below_size (by repeat (first | (with_reducible first | exact HB.out | apply below_alloc | apply pw_below_drewN | apply below_drew1) | exact HB.out))) : w.heap.size ≤ gb731)); clear HO_3; clear HO_5; clear HO_9; clear HB; have HO_3 := n0_; have HO_5 := n1_; have HO_9 := n2_; have HB := n3_; have BK731 := n4_; have GW731 := n5_; have GE731 := n6_; clear n0_ n1_ n2_ n3_ n4_ n5_ n6_; clear hb hbox hg; have hcz61_0 : w60.cell? ⟨gb731, 0, none⟩ = some (.string (⟨#[]⟩ : ByteArray)) := (blk_cell BK731.out 0).trans rfl; have hcz61_1 : w60.cell? ⟨gb731, 1, none⟩ = some (.int .i64 0) := (blk_cell BK731.out 1).trans rfl; have hcz61_2 : w60.cell? ⟨gb731, 2, none⟩ = some (.string (⟨#[]⟩ : ByteArray)) := (blk_cell BK731.out 2).trans rfl; have hfz61_0 := blk_frozen BK731.out 0; have hfz61_1 := blk_frozen BK731.out 1; have hfz61_2 := blk_frozen BK731.out 2; have p732 : 0 ≤ (x13_3 : Int) := of_decide_eq_true (by first | (with_reducible assumption) | assumption); have q732 : x13_3 < (t717.length : Int) := of_decide_eq_true (by first | (with_reducible assumption) | assumption); obtain ⟨ad732, e732, hx732_0⟩ := Kd.at_string (Kd.R_reads' HO_9.out).2.2 x13_3 p732 q732; obtain rfl : ad726 = ad732 := (by injection e732); have hn732_0 : ad726.block ≠ gb731 := Kd.own_blk (Kd.R_ne HO_9.out BK731.out (by decide)); have hn732_1 : ad726.block ≠ gb731 := Kd.own_blk (Kd.R_ne HO_9.out BK731.out (by decide)); have hn732_2 : ad726.block ≠ gb731 := Kd.own_blk (Kd.R_ne HO_9.out BK731.out (by decide)); replace hx732_0 := (cell_far (p := ⟨gb731, 0, none⟩) (by first | (rw [add_block]; exact hn732_0) | (show (Addr.add _ _).block ≠ _; rw [add_block]; exact hn732_0) | exact hn732_0) (.string t727)).trans hx732_0; replace hx732_0 := (cell_far (p := ⟨gb731, 1, none⟩) (by first | (rw [add_block]; exact hn732_1) | (show (Addr.add _ _).block ≠ _; rw [add_block]; exact hn732_1) | exact hn732_1) (.int .i64 t728)).trans hx732_0; replace hx732_0 := (cell_far (p := ⟨gb731, 2, none⟩) (by first | (rw [add_block]; exact hn732_2) | (show (Addr.add _ _).block ≠ _; rw [add_block]; exact hn732_2) | exact hn732_2) (.string t729)).trans hx732_0; clear hn732_0; clear hn732_1; clear hn732_2; replace p732 := eq_true p732; replace q732 := eq_true q732; obtain ⟨Ao62, co62, eo62⟩ := Kd.R_slice HO_5.out; subst eo62) | ((with_reducible refine gate_callee (f := 17) rfl ?_); refine goesL_ (some 116) rfl rfl Try.func17 (by kernel_rfl) rfl #[.slice Ao62 t708.length co62, .string (rdOf ByteArray.empty t717 x13_3), .int .i64 x14_5] rfl (by (try simp only [List.map_toArray, List.map_cons, List.map_nil]); first | done | rfl | (simp only [List.length_drop, List.length_take]; rfl)) ?_; (with_reducible refine (impl_ValidProduct.calls k5 _ _ t708 (rdOf ByteArray.empty t717 x13_3) x14_5 t733 t734 t735 t736 _ ?side1 ?side2 A36.out).mono ?_); (case side1 => refine (Kd.R_reads' (e := 30) (base := w.heap.size) (ok := fun k_ => (some k_ ≠ (.slice Ao9 t704.length co9 : Value).ownBlock ∧ k_ ≠ gb731)) (n := t708.length) (c := co62) ?_).2.2; exact (by (with_reducible repeat (first | apply Kd.R_alloc | apply Kd.R_drewN | apply Kd.R_drew)); exact (Kd.R_mono (Kd.R_far (p := ⟨gb731, 2, none⟩) (Kd.R_far (p := ⟨gb731, 1, none⟩) (Kd.R_far (p := ⟨gb731, 0, none⟩) (Kd.R_mono HO_5.out (fun k_ hk => (⟨hk, hk.2⟩ : _ ∧ k_ ≠ gb731))) (fun _ hk => hk.2) (.string t727)) (fun _ hk => hk.2) (.int .i64 t728)) (fun _ hk => hk.2) (.string t729)) (fun _ h_ => h_.1)))); (case side2 => exact (Kd.R_reads' HO_5.out).2.1); rintro e w63 ⟨rfl, hb⟩; refine ⟨_, rfl, ?_⟩; have n0_ := Aside0.mk (Kd.R_below (by (with_reducible repeat (first | apply Kd.R_alloc | apply Kd.R_drewN | apply Kd.R_drew)); exact (Kd.R_mono (Kd.R_far (p := ⟨gb731, 2, none⟩) (Kd.R_far (p := ⟨gb731, 1, none⟩) (Kd.R_far (p := ⟨gb731, 0, none⟩) (Kd.R_mono HO_3.out (fun k_ hk => (⟨hk, hk.2⟩ : _ ∧ k_ ≠ gb731))) (fun _ hk => hk.2) (.string t727)) (fun _ hk => hk.2) (.int .i64 t728)) (fun _ hk => hk.2) (.string t729)) (fun _ h_ => h_.1))) hb); have n1_ := Aside0.mk (Kd.R_below (by (with_reducible repeat (first | apply Kd.R_alloc | apply Kd.R_drewN | apply Kd.R_drew)); exact (Kd.R_mono (Kd.R_far (p := ⟨gb731, 2, none⟩) (Kd.R_far (p := ⟨gb731, 1, none⟩) (Kd.R_far (p := ⟨gb731, 0, none⟩) (Kd.R_mono HO_5.out (fun k_ hk => (⟨hk, hk.2⟩ : _ ∧ k_ ≠ gb731))) (fun _ hk => hk.2) (.string t727)) (fun _ hk => hk.2) (.int .i64 t728)) (fun _ hk => hk.2) (.string t729)) (fun _ h_ => h_.1))) hb); have n2_ := Aside0.mk (Kd.R_below (by (with_reducible repeat (first | apply Kd.R_alloc | apply Kd.R_drewN | apply Kd.R_drew)); exact (Kd.R_mono (Kd.R_far (p := ⟨gb731, 2, none⟩) (Kd.R_far (p := ⟨gb731, 1, none⟩) (Kd.R_far (p := ⟨gb731, 0, none⟩) (Kd.R_types HO_9.out BK731.out (by decide)) (fun _ hk => hk.2) (.string t727)) (fun _ hk => hk.2) (.int .i64 t728)) (fun _ hk => hk.2) (.string t729)) (fun _ h_ => h_.1))) hb); have n3_ := Aside0.mk (blk_below (g := gb731) (o := .cells #[.string t727, .int .i64 t728, .string t729] 30 (0, 0)) (by (with_reducible repeat (first | refine blk_drewN ?_ _ | refine blk_drew ?_ | refine blk_alloc ?_ _)); refine blk_put (cs := #[.string t727, .int .i64 t728, .string (⟨#[]⟩ : ByteArray)]) ?_ 2 _ rfl; (with_reducible repeat (first | refine blk_drewN ?_ _ | refine blk_drew ?_ | refine blk_alloc ?_ _)); refine blk_put (cs := #[.string t727, .int .i64 0, .string (⟨#[]⟩ : ByteArray)]) ?_ 1 _ rfl; (with_reducible repeat (first | refine blk_drewN ?_ _ | refine blk_drew ?_ | refine blk_alloc ?_ _)); refine blk_put (cs := #[.string (⟨#[]⟩ : ByteArray), .int .i64 0, .string (⟨#[]⟩ : ByteArray)]) ?_ 0 _ rfl; (with_reducible repeat (first | refine blk_drewN ?_ _ | refine blk_drew ?_ | refine blk_alloc ?_ _)); exact BK731.out) hb); have n4_ := Aside0.mk (below_step (by repeat (first | (with_reducible first | exact HB.out | apply below_alloc | apply pw_below_drewN | apply below_drew1 | refine below_set ?_ GE731.out) | exact HB.out)) hb); clear HO_3; clear HO_5; clear HO_9; clear BK731; clear HB; have HO_3 := n0_; have HO_5 := n1_; have HO_9 := n2_; have BK731 := n3_; have HB := n4_; clear n0_ n1_ n2_ n3_ n4_; (try clear hb); (try clear hb2); (try clear hk); (try clear hi)) | ((with_reducible refine gate_dst (N := 17) rfl ?_); refine box_event ?hg (N := 17) ?hd (cs := #[.string (⟨#[]⟩ : ByteArray), .int .i64 0, .string (⟨#[]⟩ : ByteArray)]) (t := 30) ?hr ?_; (case hd => rfl); (case hg => rfl); (case hr => first | (go_simp; done) | (go_simp; rfl)); intro gb737 hg w64 hbox hb; have n0_ := Aside0.mk (Kd.R_below (Kd.R_elderB (by (with_reducible repeat (first | apply Kd.R_alloc | apply Kd.R_drewN | apply Kd.R_drew)); exact HO_3.out) gb737 (Nat.le_of_eq hg.symm)) hb); have n1_ := Aside0.mk (Kd.R_below (Kd.R_elderB (by (with_reducible repeat (first | apply Kd.R_alloc | apply Kd.R_drewN | apply Kd.R_drew)); exact HO_5.out) gb737 (Nat.le_of_eq hg.symm)) hb); have n2_ := Aside0.mk (Kd.R_below (by (with_reducible repeat (first | apply Kd.R_alloc | apply Kd.R_drewN | apply Kd.R_drew)); exact HO_9.out) hb); have n3_ := Aside0.mk (blk_below (g := gb731) (o := .cells #[.string t727, .int .i64 t728, .string t729] 30 (0, 0)) BK731.out hb); have n4_ := Aside0.mk (below_step (by repeat (first | (with_reducible first | exact HB.out | apply below_alloc | apply pw_below_drewN | apply below_drew1 | refine below_set ?_ GE731.out) | exact HB.out)) hb); have n5_ := Aside0.mk (hbox); have n6_ := Aside0.mk ((by rw [hg]; exact (below_size (by repeat (first | (with_reducible first | exact HB.out | apply below_alloc | apply pw_below_drewN | apply below_drew1 | refine below_set ?_ GE731.out) | exact HB.out))) : w.heap.size ≤ gb737)); have n7_ := Aside0.mk ((by rw [hg]; exact (below_size (by repeat (first | (with_reducible first | exact HB.out | apply below_alloc | apply pw_below_drewN | apply below_drew1 | refine below_set ?_ GE731.out) | exact HB.out))) : w.heap.size ≤ gb737)); have n8_ := Aside0.mk ((by rw [hg]; exact Nat.ne_of_lt (blk_lt (g := gb731) (o := .cells #[.string t727, .int .i64 t728, .string t729] 30 (0, 0)) BK731.out) : gb731 ≠ gb737)); have n9_ := Aside0.mk ((by rw [hg]; exact Nat.ne_of_gt (blk_lt (g := gb731) (o := .cells #[.string t727, .int .i64 t728, .string t729] 30 (0, 0)) BK731.out) : gb737 ≠ gb731)); clear HO_3; clear HO_5; clear HO_9; clear BK731; clear HB; have HO_3 := n0_; have HO_5 := n1_; have HO_9 := n2_; have BK731 := n3_; have HB := n4_; have BK737 := n5_; have GW737 := n6_; have GE737 := n7_; have NB731_737 := n8_; have NB737_731 := n9_; clear n0_ n1_ n2_ n3_ n4_ n5_ n6_ n7_ n8_ n9_; clear hb hbox hg; have hnb65 := NB737_731.out; have hnc65 := NB731_737.out; have hcz66_0 : w64.cell? ⟨gb737, 0, none⟩ = some (.string (⟨#[]⟩ : ByteArray)) := (blk_cell BK737.out 0).trans rfl; have hcz66_1 : w64.cell? ⟨gb737, 1, none⟩ = some (.int .i64 0) := (blk_cell BK737.out 1).trans rfl; have hcz66_2 : w64.cell? ⟨gb737, 2, none⟩ = some (.string (⟨#[]⟩ : ByteArray)) := (blk_cell BK737.out 2).trans rfl; have hfz66_0 := blk_frozen BK737.out 0; have hfz66_1 := blk_frozen BK737.out 1; have hfz66_2 := blk_frozen BK737.out 2; have hcz67_0 : w64.cell? ⟨gb731, 0, none⟩ = some (.string t727) := (blk_cell BK731.out 0).trans rfl; have hcz67_1 : w64.cell? ⟨gb731, 1, none⟩ = some (.int .i64 t728) := (blk_cell BK731.out 1).trans rfl; have hcz67_2 : w64.cell? ⟨gb731, 2, none⟩ = some (.string t729) := (blk_cell BK731.out 2).trans rfl; have hfz67_0 := blk_frozen BK731.out 0; have hfz67_1 := blk_frozen BK731.out 1; have hfz67_2 := blk_frozen BK731.out 2))
                 go_roundg k5
                 case measure => have := HJ6.out; have := HJ18.out; have := HK3.out; have := HJ26.out; have := HK5.out; omega
                 case rel => exact ⟨(wrap64 (x14_5 + 30)), (by first | rfl | (simp; done) | (simp [*]; done)), H', ⟨by have := HJ6.out; have := HJ18.out; have := HK3.out; have := HJ26.out; have := HK5.out; omega⟩, ⟨by (with_reducible repeat (first | apply Kd.R_alloc | apply Kd.R_drewN | apply Kd.R_drew)); exact Kd.R_mono (Kd.R_far (p := ⟨gb737, 2, none⟩) (Kd.R_far (p := ⟨gb737, 1, none⟩) (Kd.R_far (p := ⟨gb737, 0, none⟩) (Kd.R_mono HO_3.out (fun k_ hk => (⟨hk, hk.2⟩ : _ ∧ k_ ≠ gb737))) (fun _ hk => hk.2) (.string t733)) (fun _ hk => hk.2) (.int .i64 t734)) (fun _ hk => hk.2) (.string t735)) (fun _ hk => hk.1.1.1)⟩, ⟨by (with_reducible repeat (first | apply Kd.R_alloc | apply Kd.R_drewN | apply Kd.R_drew)); exact Kd.R_mono (Kd.R_far (p := ⟨gb737, 2, none⟩) (Kd.R_far (p := ⟨gb737, 1, none⟩) (Kd.R_far (p := ⟨gb737, 0, none⟩) (Kd.R_mono HO_5.out (fun k_ hk => (⟨hk, hk.2⟩ : _ ∧ k_ ≠ gb737))) (fun _ hk => hk.2) (.string t733)) (fun _ hk => hk.2) (.int .i64 t734)) (fun _ hk => hk.2) (.string t735)) (fun _ hk => hk.1.1.1)⟩, ⟨by (with_reducible repeat (first | apply Kd.R_alloc | apply Kd.R_drewN | apply Kd.R_drew)); exact Kd.R_mono (Kd.R_far (p := ⟨gb737, 2, none⟩) (Kd.R_far (p := ⟨gb737, 1, none⟩) (Kd.R_far (p := ⟨gb737, 0, none⟩) (Kd.R_types HO_9.out BK737.out (by decide)) (fun _ hk => hk.2) (.string t733)) (fun _ hk => hk.2) (.int .i64 t734)) (fun _ hk => hk.2) (.string t735)) (fun _ hk => trivial)⟩, ⟨by repeat (first | (with_reducible first | exact HB.out | apply below_alloc | apply pw_below_drewN | apply below_drew1 | refine below_set ?_ GE731.out | refine below_set ?_ GE737.out) | exact HB.out)⟩⟩
             replace c31 := Bool.eq_false_iff.mpr c31
             subst c31
             have H1 : ((spec_DrawChangedBetween.f kj26 l0).bind fun bt738 => ((impl_ChangedBetween.f kj26 bt738.1 bt738.2.1 bt738.2.2).bind fun bt743 => ((spec_ChangedBetween.f kj26 bt738.1 bt738.2.1 bt738.2.2).bind fun bt747 => (if (bt743.2 != bt747.2) = true then (laws_FnPruning.j5 kj26 l0 bt738.1 bt738.2.1 bt738.2.2 bt743.1 true) else ((laws_rTexts.f kj26 bt743.1 bt747.1).bind fun t751 => (laws_FnPruning.j5 kj26 l0 bt738.1 bt738.2.1 bt738.2.2 bt743.1 (!t751))))))) = some r := by rw [if_neg (show ¬ (false = true) by decide)] at H; exact H
             clear H
             have H := H1
             clear H1
             replace H := Option.bind_eq_some_iff.mp H
             obtain ⟨⟨t738, t739, t740⟩, A680, H⟩ := H
             replace H : ((impl_ChangedBetween.f kj26 t738 t739 t740).bind fun bt743 => ((spec_ChangedBetween.f kj26 t738 t739 t740).bind fun bt747 => (if (bt743.2 != bt747.2) = true then (laws_FnPruning.j5 kj26 l0 t738 t739 t740 bt743.1 true) else ((laws_rTexts.f kj26 bt743.1 bt747.1).bind fun t751 => (laws_FnPruning.j5 kj26 l0 t738 t739 t740 bt743.1 (!t751)))))) = some r := H
             have A68 := Aside0.mk A680
             clear A680
             replace H := Option.bind_eq_some_iff.mp H
             obtain ⟨⟨t743, t744⟩, A690, H⟩ := H
             replace H : ((spec_ChangedBetween.f kj26 t738 t739 t740).bind fun bt747 => (if (t744 != bt747.2) = true then (laws_FnPruning.j5 kj26 l0 t738 t739 t740 t743 true) else ((laws_rTexts.f kj26 t743 bt747.1).bind fun t751 => (laws_FnPruning.j5 kj26 l0 t738 t739 t740 t743 (!t751))))) = some r := H
             have A69 := Aside0.mk A690
             clear A690
             replace H := Option.bind_eq_some_iff.mp H
             obtain ⟨⟨t747, t748⟩, A700, H⟩ := H
             replace H : (if (t744 != t748) = true then (laws_FnPruning.j5 kj26 l0 t738 t739 t740 t743 true) else ((laws_rTexts.f kj26 t743 t747).bind fun t751 => (laws_FnPruning.j5 kj26 l0 t738 t739 t740 t743 (!t751)))) = some r := H
             have A70 := Aside0.mk A700
             clear A700
             have HC71 := Aside0.mk H
             clear H
             go_upto_region 25 with (first | ((with_reducible refine gate_callee (f := 43) rfl ?_); refine goesL_ (some 129) rfl rfl Try.func43 (by kernel_rfl) rfl #[.slice A0 l0.length c0] rfl (by (try simp only [List.map_toArray, List.map_cons, List.map_nil]); first | done | rfl | (simp only [List.length_drop, List.length_take]; rfl)) ?_; (with_reducible refine (spec_DrawChangedBetween.calls kj26 _ _ l0 t738 t739 t740 _ ?side1 ?side2 A68.out).mono ?_); (case side1 => repeat (first | exact (Kd.C_below HR0.out HB.out) | (with_reducible refine Kd.C_alloc ?_ _) | (with_reducible refine Kd.C_drewN ?_ _) | (with_reducible refine Kd.C_drew ?_))); (case side2 => exact HC0.out); rintro e w72 ⟨v741, rfl, ho0, hb⟩; refine ⟨_, rfl, ?_⟩; have n0_ := Aside0.mk (Kd.R_elder' (by (with_reducible repeat (first | apply Kd.R_alloc | apply Kd.R_drewN | apply Kd.R_drew)); exact HO_3.out) (Kd.R_base ho0) hb); have n1_ := Aside0.mk (Kd.R_elder' (by (with_reducible repeat (first | apply Kd.R_alloc | apply Kd.R_drewN | apply Kd.R_drew)); exact HO_5.out) (Kd.R_base ho0) hb); have n2_ := Aside0.mk (Kd.R_below (by (with_reducible repeat (first | apply Kd.R_alloc | apply Kd.R_drewN | apply Kd.R_drew)); exact HO_9.out) hb); have n3_ := Aside0.mk (Kd.R_lower (Kd.R_new' (Kd.R_new' ho0 (Kd.R_lt (by (with_reducible repeat (first | apply Kd.R_alloc | apply Kd.R_drewN | apply Kd.R_drew)); exact HO_3.out))) (Kd.R_lt (by (with_reducible repeat (first | apply Kd.R_alloc | apply Kd.R_drewN | apply Kd.R_drew)); exact HO_5.out))) (below_size (by repeat (first | (with_reducible first | exact HB.out | apply below_alloc | apply pw_below_drewN | apply below_drew1) | exact HB.out)))); have n4_ := Aside0.mk (below_step (by repeat (first | (with_reducible first | exact HB.out | apply below_alloc | apply pw_below_drewN | apply below_drew1) | exact HB.out)) hb); clear HO_3; clear HO_5; clear HO_9; clear HB; have HO_3 := n0_; have HO_5 := n1_; have HO_9 := n2_; have HO742 := n3_; have HB := n4_; clear n0_ n1_ n2_ n3_ n4_; (try clear hb); (try clear hb2); (try clear hk); (try clear hi); (try clear ho0); obtain ⟨Ao73, co73, eo73⟩ := Kd.R_slice HO742.out; subst eo73) | ((with_reducible refine gate_callee (f := 34) rfl ?_); refine goesL_ (some 137) rfl rfl Try.func34 (by kernel_rfl) rfl #[.slice Ao73 t738.length co73, .int .i64 t739, .int .i64 t740] rfl (by (try simp only [List.map_toArray, List.map_cons, List.map_nil]); first | done | rfl | (simp only [List.length_drop, List.length_take]; rfl)) ?_; (with_reducible refine (impl_ChangedBetween.calls kj26 _ _ t738 t739 t740 t743 t744 _ ?side1 ?side2 A69.out).mono ?_); (case side1 => repeat (first | exact (Kd.R_reads' HO742.out).2.2 | (with_reducible refine Kd.C_alloc ?_ _) | (with_reducible refine Kd.C_drewN ?_ _) | (with_reducible refine Kd.C_drew ?_))); (case side2 => exact (Kd.R_reads' HO742.out).2.1); rintro e w74 ⟨v745, rfl, ho0, hb⟩; refine ⟨_, rfl, ?_⟩; have n0_ := Aside0.mk (Kd.R_below (by (with_reducible repeat (first | apply Kd.R_alloc | apply Kd.R_drewN | apply Kd.R_drew)); exact HO_3.out) hb); have n1_ := Aside0.mk (Kd.R_below (by (with_reducible repeat (first | apply Kd.R_alloc | apply Kd.R_drewN | apply Kd.R_drew)); exact HO_5.out) hb); have n2_ := Aside0.mk (Kd.R_elder' (by (with_reducible repeat (first | apply Kd.R_alloc | apply Kd.R_drewN | apply Kd.R_drew)); exact HO_9.out) (Kd.R_base ho0) hb); have n3_ := Aside0.mk (Kd.R_below (by (with_reducible repeat (first | apply Kd.R_alloc | apply Kd.R_drewN | apply Kd.R_drew)); exact HO742.out) hb); have n4_ := Aside0.mk (Kd.R_lower (Kd.R_new' ho0 (Kd.R_lt (by (with_reducible repeat (first | apply Kd.R_alloc | apply Kd.R_drewN | apply Kd.R_drew)); exact HO_9.out))) (below_size (by repeat (first | (with_reducible first | exact HB.out | apply below_alloc | apply pw_below_drewN | apply below_drew1) | exact HB.out)))); have n5_ := Aside0.mk (below_step (by repeat (first | (with_reducible first | exact HB.out | apply below_alloc | apply pw_below_drewN | apply below_drew1) | exact HB.out)) hb); clear HO_3; clear HO_5; clear HO_9; clear HO742; clear HB; have HO_3 := n0_; have HO_5 := n1_; have HO_9 := n2_; have HO742 := n3_; have HO746 := n4_; have HB := n5_; clear n0_ n1_ n2_ n3_ n4_ n5_; (try clear hb); (try clear hb2); (try clear hk); (try clear hi); (try clear ho0)) | ((with_reducible refine gate_callee (f := 33) rfl ?_); refine goesL_ (some 144) rfl rfl Try.func33 (by kernel_rfl) rfl #[.slice Ao73 t738.length co73, .int .i64 t739, .int .i64 t740] rfl (by (try simp only [List.map_toArray, List.map_cons, List.map_nil]); first | done | rfl | (simp only [List.length_drop, List.length_take]; rfl)) ?_; (with_reducible refine (spec_ChangedBetween.calls kj26 _ _ t738 t739 t740 t747 t748 _ ?side1 ?side2 A70.out).mono ?_); (case side1 => repeat (first | exact (Kd.R_reads' HO742.out).2.2 | (with_reducible refine Kd.C_alloc ?_ _) | (with_reducible refine Kd.C_drewN ?_ _) | (with_reducible refine Kd.C_drew ?_))); (case side2 => exact (Kd.R_reads' HO742.out).2.1); rintro e w75 ⟨v749, rfl, ho0, hb⟩; refine ⟨_, rfl, ?_⟩; have n0_ := Aside0.mk (Kd.R_below (by (with_reducible repeat (first | apply Kd.R_alloc | apply Kd.R_drewN | apply Kd.R_drew)); exact HO_3.out) hb); have n1_ := Aside0.mk (Kd.R_below (by (with_reducible repeat (first | apply Kd.R_alloc | apply Kd.R_drewN | apply Kd.R_drew)); exact HO_5.out) hb); have n2_ := Aside0.mk (Kd.R_elder' (by (with_reducible repeat (first | apply Kd.R_alloc | apply Kd.R_drewN | apply Kd.R_drew)); exact HO_9.out) (Kd.R_base ho0) hb); have n3_ := Aside0.mk (Kd.R_below (by (with_reducible repeat (first | apply Kd.R_alloc | apply Kd.R_drewN | apply Kd.R_drew)); exact HO742.out) hb); have n4_ := Aside0.mk (Kd.R_elder' (by (with_reducible repeat (first | apply Kd.R_alloc | apply Kd.R_drewN | apply Kd.R_drew)); exact HO746.out) (Kd.R_base ho0) hb); have n5_ := Aside0.mk (Kd.R_lower (Kd.R_new' (Kd.R_new' ho0 (Kd.R_lt (by (with_reducible repeat (first | apply Kd.R_alloc | apply Kd.R_drewN | apply Kd.R_drew)); exact HO_9.out))) (Kd.R_lt (by (with_reducible repeat (first | apply Kd.R_alloc | apply Kd.R_drewN | apply Kd.R_drew)); exact HO746.out))) (below_size (by repeat (first | (with_reducible first | exact HB.out | apply below_alloc | apply pw_below_drewN | apply below_drew1) | exact HB.out)))); have n6_ := Aside0.mk (below_step (by repeat (first | (with_reducible first | exact HB.out | apply below_alloc | apply pw_below_drewN | apply below_drew1) | exact HB.out)) hb); clear HO_3; clear HO_5; clear HO_9; clear HO742; clear HO746; clear HB; have HO_3 := n0_; have HO_5 := n1_; have HO_9 := n2_; have HO742 := n3_; have HO746 := n4_; have HO750 := n5_; have HB := n6_; clear n0_ n1_ n2_ n3_ n4_ n5_ n6_; (try clear hb); (try clear hb2); (try clear hk); (try clear hi); (try clear ho0)))
             (try simp only [Act.put, List.setIfInBounds_toArray, List.set_cons_zero, List.set_cons_succ])
             go_cut [155] (fun v155 wc => ∃ (kq : Nat) (x155_70 : Bool), v155 = .bool x155_70 ∧ Aside0 (laws_FnPruning.j5 kq l0 t738 t739 t740 t743 x155_70 = some r) ∧ Aside0 (kq ≤ kj26) ∧ Aside0 (Kd.R k30 30 wc w.heap.size (fun _ => True) (.slice Ao73 t738.length co73) t738) ∧ Aside0 (Kd.R Kd.string 9 wc w.heap.size (fun _ => True) v745 t743) ∧ Aside0 (Below w.heap.size w wc))
             case first =>
              as_aux_lemma =>
               have H := HC71.out
               clear HC71
               by_cases c76 : (t744 != t748) = true
               ·
                rw [if_pos c76] at H
                have c76b0 : (t744 != t748) = true := c76
                (try (have c76b1 : decide (t744 = t748) = false := by simpa using c76))
                (try (have c76b2 : (t744 == t748) = false := by simpa using c76))
                (try (have c76b3 : ¬ (t744 = t748) := by simpa using c76))
                clear c76
                (first | rw [c76b0] | (simp only [i64_w, i32_w]; rw [c76b0]) | skip)
                have H' := Aside0.mk H
                clear H
                go_wp2
                go_meet
                case rel => exact ⟨_, (true), (by first | rfl | (simp; done) | (simp [*]; done)), H', ⟨by have := HJ6.out; have := HJ18.out; have := HK3.out; have := HJ26.out; first | omega | exact Nat.le_refl _⟩, ⟨by (with_reducible repeat (first | apply Kd.R_alloc | apply Kd.R_drewN | apply Kd.R_drew)); exact Kd.R_mono HO742.out (fun _ hk => trivial)⟩, ⟨by (with_reducible repeat (first | apply Kd.R_alloc | apply Kd.R_drewN | apply Kd.R_drew)); exact Kd.R_mono HO746.out (fun _ hk => trivial)⟩, ⟨by repeat (first | (with_reducible first | exact HB.out | apply below_alloc | apply pw_below_drewN | apply below_drew1) | exact HB.out)⟩⟩
               rw [if_neg c76] at H
               have c76b0 : (t744 != t748) = false := by simpa using c76
               (try (have c76b1 : decide (t744 = t748) = true := by simpa using c76))
               (try (have c76b2 : (t744 == t748) = true := by simpa using c76))
               clear c76
               (first | rw [c76b0] | (simp only [i64_w, i32_w]; rw [c76b0]) | skip)
               replace H := Option.bind_eq_some_iff.mp H
               obtain ⟨t751, A770, H⟩ := H
               replace H : (laws_FnPruning.j5 kj26 l0 t738 t739 t740 t743 (!t751)) = some r := H
               have A77 := Aside0.mk A770
               clear A770
               have H' := Aside0.mk H
               clear H
               obtain ⟨Ao78, co78, eo78⟩ := Kd.R_slice HO746.out
               subst eo78
               obtain ⟨Ao79, co79, eo79⟩ := Kd.R_slice HO750.out
               subst eo79
               go_wp2_with (first | (go_at_call 42; (with_reducible refine (laws_rTexts.calls kj26 _ _ t743 _ _ t747 t751 _ ?side1 ?side2 ?side3 ?side4 A77.out).mono ?_); (case side1 => repeat (first | exact (Kd.R_reads' HO746.out).2.2 | (with_reducible refine Kd.C_alloc ?_ _) | (with_reducible refine Kd.C_drewN ?_ _) | (with_reducible refine Kd.C_drew ?_))); (case side2 => exact (Kd.R_reads' HO746.out).2.1); (case side3 => repeat (first | exact (Kd.R_reads' HO750.out).2.2 | (with_reducible refine Kd.C_alloc ?_ _) | (with_reducible refine Kd.C_drewN ?_ _) | (with_reducible refine Kd.C_drew ?_))); (case side4 => exact (Kd.R_reads' HO750.out).2.1); rintro e w' ⟨rfl, ⟨nd, rfl⟩⟩))
               go_meet
               case rel => exact ⟨_, (!t751), (by first | rfl | (simp; done) | (simp [*]; done)), H', ⟨by have := HJ6.out; have := HJ18.out; have := HK3.out; have := HJ26.out; first | omega | exact Nat.le_refl _⟩, ⟨by (with_reducible repeat (first | apply Kd.R_alloc | apply Kd.R_drewN | apply Kd.R_drew)); exact Kd.R_mono HO742.out (fun _ hk => trivial)⟩, ⟨by (with_reducible repeat (first | apply Kd.R_alloc | apply Kd.R_drewN | apply Kd.R_drew)); exact Kd.R_mono HO746.out (fun _ hk => trivial)⟩, ⟨by repeat (first | (with_reducible first | exact HB.out | apply below_alloc | apply pw_below_drewN | apply below_drew1) | exact HB.out)⟩⟩
             case rest =>
              as_aux_lemma =>
               clear HC71
               try clear c1
               try clear c2
               try clear p2
               try clear c3
               try clear c4
               try clear c5
               try clear c6
               try clear p6
               try clear c7
               try clear p7
               try clear q7
               try clear hx7
               try clear c10
               try clear c12
               try clear c12b0
               try clear c12b1
               try clear c12b2
               try clear c16
               try clear c17
               try clear c22
               try clear c22b0
               try clear c22b1
               try clear c22b2
               try clear c25
               try clear c26
               try clear c28
               try clear c28b0
               try clear c30
               try clear c31
               try clear c32
               try clear c32b0
               try clear c33
               try clear c33b0
               try clear c34
               try clear c34b0
               try clear c37
               try clear c37b0
               try clear c37b1
               try clear c37b2
               try clear c39
               try clear c40
               try clear c43
               try clear c45
               try clear c47
               try clear c47b0
               try clear c55
               try clear p64
               try clear c65
               try clear p72
               try clear q72
               try clear hx72
               try clear p73
               try clear q73
               try clear hx73
               try clear c76
               try clear c76b0
               try clear c76b1
               try clear c76b2
               try clear hcz41_0
               try clear hcz41_1
               try clear hcz41_2
               try clear hcz46_0
               try clear hcz46_1
               try clear hcz46_2
               try clear hcz51_0
               try clear hcz51_1
               try clear hcz51_2
               try clear hcz56_0
               try clear hcz56_1
               try clear hcz56_2
               try clear hcz57_0
               try clear hcz57_1
               try clear hcz57_2
               try clear hcz61_0
               try clear hcz61_1
               try clear hcz61_2
               try clear hcz66_0
               try clear hcz66_1
               try clear hcz66_2
               try clear hcz67_0
               try clear hcz67_1
               try clear hcz67_2
               try clear hfz41_0
               try clear hfz41_1
               try clear hfz41_2
               try clear hfz46_0
               try clear hfz46_1
               try clear hfz46_2
               try clear hfz51_0
               try clear hfz51_1
               try clear hfz51_2
               try clear hfz56_0
               try clear hfz56_1
               try clear hfz56_2
               try clear hfz57_0
               try clear hfz57_1
               try clear hfz57_2
               try clear hfz61_0
               try clear hfz61_1
               try clear hfz61_2
               try clear hfz66_0
               try clear hfz66_1
               try clear hfz66_2
               try clear hfz67_0
               try clear hfz67_1
               try clear hfz67_2
               try clear hx726_0
               try clear hx732_0
               try clear p2
               try clear p726
               try clear p732
               try clear q726
               try clear q732
               obtain ⟨kq, x155_70, rfl, HA, HJ70, HO_19, HO_22, HB⟩ := hcut
               cases kq with
               | zero => exact absurd HA.out (by simp [laws_FnPruning.j5])
               | succ kj70 =>
                have H := HA.out
                clear HA
                simp only [laws_FnPruning.j5] at H
                by_cases c80 : x155_70 = true
                ·
                 subst c80
                 have H1 : (some false) = some r := by rw [if_pos rfl] at H; exact H
                 exact absurd ((Option.some.inj H1).trans hrt_) (by decide)
                replace c80 := Bool.eq_false_iff.mpr c80
                subst c80
                have H1 : (laws_FnPruning.l2 kj70 l0 t738 t739 t740 t743 0) = some r := by rw [if_neg (show ¬ (false = true) by decide)] at H; exact H
                clear H
                have H := H1
                clear H1
                have H' := Aside0.mk H
                clear H
                go_wp2
                go_loopg [26] kj70 (fun kq v26 w' => ∃ (x26_6 : Int), v26 = .int .i64 x26_6 ∧ Aside0 (laws_FnPruning.l2 kq l0 t738 t739 t740 t743 x26_6 = some r) ∧ Aside0 (kq ≤ kj70) ∧ Aside0 (Kd.R k30 30 w' w.heap.size (fun _ => True) (.slice Ao73 t738.length co73) t738) ∧ Aside0 (Kd.R Kd.string 9 w' w.heap.size (fun _ => True) v745 t743) ∧ Aside0 (Below w.heap.size w w'))
                case atStart => exact ⟨(0), (by first | rfl | (simp; done) | (simp [*]; done)), H', ⟨Nat.le_refl _⟩, ⟨by (with_reducible repeat (first | apply Kd.R_alloc | apply Kd.R_drewN | apply Kd.R_drew)); exact HO_19.out⟩, ⟨by (with_reducible repeat (first | apply Kd.R_alloc | apply Kd.R_drewN | apply Kd.R_drew)); exact HO_22.out⟩, ⟨by repeat (first | (with_reducible first | exact HB.out | apply below_alloc | apply pw_below_drewN | apply below_drew1) | exact HB.out)⟩⟩
                case round =>
                 as_aux_lemma =>
                  clear H'
                  try clear c1
                  try clear c2
                  try clear p2
                  try clear c3
                  try clear c4
                  try clear c5
                  try clear c6
                  try clear p6
                  try clear c7
                  try clear p7
                  try clear q7
                  try clear hx7
                  try clear c8
                  try clear c10
                  try clear c12
                  try clear c12b0
                  try clear c12b1
                  try clear c12b2
                  try clear c16
                  try clear c17
                  try clear c22
                  try clear c22b0
                  try clear c22b1
                  try clear c22b2
                  try clear c25
                  try clear c26
                  try clear c28
                  try clear c28b0
                  try clear c30
                  try clear c31
                  try clear c32
                  try clear c32b0
                  try clear c33
                  try clear c33b0
                  try clear c34
                  try clear c34b0
                  try clear c37
                  try clear c37b0
                  try clear c37b1
                  try clear c37b2
                  try clear c39
                  try clear c40
                  try clear c43
                  try clear c45
                  try clear c47
                  try clear c47b0
                  try clear c55
                  try clear p64
                  try clear c65
                  try clear p72
                  try clear q72
                  try clear hx72
                  try clear p73
                  try clear q73
                  try clear hx73
                  try clear c76
                  try clear c76b0
                  try clear c76b1
                  try clear c76b2
                  try clear c80
                  try clear hcz41_0
                  try clear hcz41_1
                  try clear hcz41_2
                  try clear hcz46_0
                  try clear hcz46_1
                  try clear hcz46_2
                  try clear hcz51_0
                  try clear hcz51_1
                  try clear hcz51_2
                  try clear hcz56_0
                  try clear hcz56_1
                  try clear hcz56_2
                  try clear hcz57_0
                  try clear hcz57_1
                  try clear hcz57_2
                  try clear hcz61_0
                  try clear hcz61_1
                  try clear hcz61_2
                  try clear hcz66_0
                  try clear hcz66_1
                  try clear hcz66_2
                  try clear hcz67_0
                  try clear hcz67_1
                  try clear hcz67_2
                  try clear hfz41_0
                  try clear hfz41_1
                  try clear hfz41_2
                  try clear hfz46_0
                  try clear hfz46_1
                  try clear hfz46_2
                  try clear hfz51_0
                  try clear hfz51_1
                  try clear hfz51_2
                  try clear hfz56_0
                  try clear hfz56_1
                  try clear hfz56_2
                  try clear hfz57_0
                  try clear hfz57_1
                  try clear hfz57_2
                  try clear hfz61_0
                  try clear hfz61_1
                  try clear hfz61_2
                  try clear hfz66_0
                  try clear hfz66_1
                  try clear hfz66_2
                  try clear hfz67_0
                  try clear hfz67_1
                  try clear hfz67_2
                  try clear hx726_0
                  try clear hx732_0
                  try clear p2
                  try clear p6
                  try clear p64
                  try clear p7
                  try clear p72
                  try clear p726
                  try clear p73
                  try clear p732
                  try clear q7
                  try clear q72
                  try clear q726
                  try clear q73
                  try clear q732
                  obtain ⟨x26_6, rfl, HA, HK6, HO_19, HO_22, HB⟩ := hrel
                  cases gk with
                  | zero => exact absurd HA.out (by simp [laws_FnPruning.l2])
                  | succ k6 =>
                   have H := HA.out
                   clear HA
                   simp only [laws_FnPruning.l2] at H
                   by_cases c81 : x26_6 < (t743.length : Int)
                   rotate_left
                   ·
                    rw [if_neg c81] at H
                    have c81b0 : decide (x26_6 < (t743.length : Int)) = false := decide_eq_false c81
                    clear c81
                    replace H := Option.bind_eq_some_iff.mp H
                    obtain ⟨⟨t752, t753, t754⟩, A1220, H⟩ := H
                    replace H : ((impl_ValidProduct.f k6 t752 t753 t754).bind fun bt757 => ((spec_ValidProduct.f k6 t752 t753 t754).bind fun bt762 => (if (bt757.1.toList == bt762.1.toList && (bt757.2.1 == bt762.2.1 && (bt757.2.2.1.toList == bt762.2.2.1.toList))) = true then (some (bt757.2.2.2 == bt762.2.2.2)) else (some false)))) = some r := H
                    have A122 := Aside0.mk A1220
                    clear A1220
                    replace H := Option.bind_eq_some_iff.mp H
                    obtain ⟨⟨t757, t758, t759, t760⟩, A1230, H⟩ := H
                    replace H : ((spec_ValidProduct.f k6 t752 t753 t754).bind fun bt762 => (if (t757.toList == bt762.1.toList && (t758 == bt762.2.1 && (t759.toList == bt762.2.2.1.toList))) = true then (some (t760 == bt762.2.2.2)) else (some false))) = some r := H
                    have A123 := Aside0.mk A1230
                    clear A1230
                    replace H := Option.bind_eq_some_iff.mp H
                    obtain ⟨⟨t762, t763, t764, t765⟩, A1240, H⟩ := H
                    replace H : (if (t757.toList == t762.toList && (t758 == t763 && (t759.toList == t764.toList))) = true then (some (t760 == t765)) else (some false)) = some r := H
                    have A124 := Aside0.mk A1240
                    clear A1240
                    by_cases c125 : (t757.toList == t762.toList && (t758 == t763 && (t759.toList == t764.toList))) = true
                    rotate_left
                    ·
                     rw [if_neg c125] at H
                     have c125b0 : (t757.toList == t762.toList && (t758 == t763 && (t759.toList == t764.toList))) = false := by simpa using c125
                     (try (have c125b1 : decide (t757.toList = t762.toList && (t758 == t763 && (t759.toList == t764.toList))) = false := by simpa using c125))
                     (try (have c125b2 : (t757.toList == t762.toList && (t758 == t763 && (t759.toList == t764.toList))) = false := by simpa using c125))
                     (try (have c125b3 : ¬ (t757.toList = t762.toList && (t758 == t763 && (t759.toList == t764.toList))) := by simpa using c125))
                     clear c125
                     exact absurd ((Option.some.inj H).trans hrt_) (by decide)
                    rw [if_pos c125] at H
                    have c125b0 : (t757.toList == t762.toList && (t758 == t763 && (t759.toList == t764.toList))) = true := c125
                    (try (have c125b1 : decide (t757.toList = t762.toList && (t758 == t763 && (t759.toList == t764.toList))) = true := by simpa using c125))
                    (try (have c125b2 : (t757.toList == t762.toList && (t758 == t763 && (t759.toList == t764.toList))) = true := by simpa using c125))
                    clear c125
                    obtain rfl := Option.some.inj H
                    obtain ⟨Ao126, co126, eo126⟩ := Kd.R_slice HO_22.out
                    subst eo126
                    go_wp2_with (first | ((with_reducible refine gate_callee (f := 44) rfl ?_); refine goesL_ (some 196) rfl rfl Try.func44 (by kernel_rfl) rfl #[.slice A0 l0.length c0] rfl (by (try simp only [List.map_toArray, List.map_cons, List.map_nil]); first | done | rfl | (simp only [List.length_drop, List.length_take]; rfl)) ?_; (with_reducible refine (spec_DrawValidProduct.calls k6 _ _ l0 t752 t753 t754 _ ?side1 ?side2 A122.out).mono ?_); (case side1 => repeat (first | exact (Kd.C_below HR0.out HB.out) | (with_reducible refine Kd.C_alloc ?_ _) | (with_reducible refine Kd.C_drewN ?_ _) | (with_reducible refine Kd.C_drew ?_))); (case side2 => exact HC0.out); rintro e w127 ⟨v755, rfl, ho0, hb⟩; refine ⟨_, rfl, ?_⟩; have n0_ := Aside0.mk (Kd.R_elder' (by (with_reducible repeat (first | apply Kd.R_alloc | apply Kd.R_drewN | apply Kd.R_drew)); exact HO_19.out) (Kd.R_base ho0) hb); have n1_ := Aside0.mk (Kd.R_below (by (with_reducible repeat (first | apply Kd.R_alloc | apply Kd.R_drewN | apply Kd.R_drew)); exact HO_22.out) hb); have n2_ := Aside0.mk (Kd.R_lower (Kd.R_new' ho0 (Kd.R_lt (by (with_reducible repeat (first | apply Kd.R_alloc | apply Kd.R_drewN | apply Kd.R_drew)); exact HO_19.out))) (below_size (by repeat (first | (with_reducible first | exact HB.out | apply below_alloc | apply pw_below_drewN | apply below_drew1) | exact HB.out)))); have n3_ := Aside0.mk (below_step (by repeat (first | (with_reducible first | exact HB.out | apply below_alloc | apply pw_below_drewN | apply below_drew1) | exact HB.out)) hb); clear HO_19; clear HO_22; clear HB; have HO_19 := n0_; have HO_22 := n1_; have HO756 := n2_; have HB := n3_; clear n0_ n1_ n2_ n3_; (try clear hb); (try clear hb2); (try clear hk); (try clear hi); (try clear ho0); obtain ⟨Ao128, co128, eo128⟩ := Kd.R_slice HO756.out; subst eo128) | ((with_reducible refine gate_callee (f := 17) rfl ?_); refine goesL_ (some 204) rfl rfl Try.func17 (by kernel_rfl) rfl #[.slice Ao128 t752.length co128, .string t753, .int .i64 t754] rfl (by (try simp only [List.map_toArray, List.map_cons, List.map_nil]); first | done | rfl | (simp only [List.length_drop, List.length_take]; rfl)) ?_; (with_reducible refine (impl_ValidProduct.calls k6 _ _ t752 t753 t754 t757 t758 t759 t760 _ ?side1 ?side2 A123.out).mono ?_); (case side1 => repeat (first | exact (Kd.R_reads' HO756.out).2.2 | (with_reducible refine Kd.C_alloc ?_ _) | (with_reducible refine Kd.C_drewN ?_ _) | (with_reducible refine Kd.C_drew ?_))); (case side2 => exact (Kd.R_reads' HO756.out).2.1); rintro e w129 ⟨rfl, hb⟩; refine ⟨_, rfl, ?_⟩; have n0_ := Aside0.mk (Kd.R_below (by (with_reducible repeat (first | apply Kd.R_alloc | apply Kd.R_drewN | apply Kd.R_drew)); exact HO_19.out) hb); have n1_ := Aside0.mk (Kd.R_below (by (with_reducible repeat (first | apply Kd.R_alloc | apply Kd.R_drewN | apply Kd.R_drew)); exact HO_22.out) hb); have n2_ := Aside0.mk (Kd.R_below (by (with_reducible repeat (first | apply Kd.R_alloc | apply Kd.R_drewN | apply Kd.R_drew)); exact HO756.out) hb); have n3_ := Aside0.mk (below_step (by repeat (first | (with_reducible first | exact HB.out | apply below_alloc | apply pw_below_drewN | apply below_drew1) | exact HB.out)) hb); clear HO_19; clear HO_22; clear HO756; clear HB; have HO_19 := n0_; have HO_22 := n1_; have HO756 := n2_; have HB := n3_; clear n0_ n1_ n2_ n3_; (try clear hb); (try clear hb2); (try clear hk); (try clear hi)) | ((with_reducible refine gate_dst (N := 34) rfl ?_); refine box_event ?hg (N := 34) ?hd (cs := #[.string (⟨#[]⟩ : ByteArray), .int .i64 0, .string (⟨#[]⟩ : ByteArray)]) (t := 30) ?hr ?_; (case hd => rfl); (case hg => rfl); (case hr => first | (go_simp; done) | (go_simp; rfl)); intro gb761 hg w130 hbox hb; have n0_ := Aside0.mk (Kd.R_below (Kd.R_elderB (by (with_reducible repeat (first | apply Kd.R_alloc | apply Kd.R_drewN | apply Kd.R_drew)); exact HO_19.out) gb761 (Nat.le_of_eq hg.symm)) hb); have n1_ := Aside0.mk (Kd.R_below (by (with_reducible repeat (first | apply Kd.R_alloc | apply Kd.R_drewN | apply Kd.R_drew)); exact HO_22.out) hb); have n2_ := Aside0.mk (Kd.R_below (Kd.R_elderB (by (with_reducible repeat (first | apply Kd.R_alloc | apply Kd.R_drewN | apply Kd.R_drew)); exact HO756.out) gb761 (Nat.le_of_eq hg.symm)) hb); have n3_ := Aside0.mk (below_step (by repeat (first | (with_reducible first | exact HB.out | apply below_alloc | apply pw_below_drewN | apply below_drew1) | exact HB.out)) hb); have n4_ := Aside0.mk (hbox); have n5_ := Aside0.mk ((by rw [hg]; exact (below_size (by repeat (first | (with_reducible first | exact HB.out | apply below_alloc | apply pw_below_drewN | apply below_drew1) | exact HB.out))) : w.heap.size ≤ gb761)); have n6_ := Aside0.mk ((by rw [hg]; exact (below_size (by repeat (first | (with_reducible first | exact HB.out | apply below_alloc | apply pw_below_drewN | apply below_drew1) | exact HB.out))) : w.heap.size ≤ gb761)); clear HO_19; clear HO_22; clear HO756; clear HB; have HO_19 := n0_; have HO_22 := n1_; have HO756 := n2_; have HB := n3_; have BK761 := n4_; have GW761 := n5_; have GE761 := n6_; clear n0_ n1_ n2_ n3_ n4_ n5_ n6_; clear hb hbox hg; have hcz131_0 : w130.cell? ⟨gb761, 0, none⟩ = some (.string (⟨#[]⟩ : ByteArray)) := (blk_cell BK761.out 0).trans rfl; have hcz131_1 : w130.cell? ⟨gb761, 1, none⟩ = some (.int .i64 0) := (blk_cell BK761.out 1).trans rfl; have hcz131_2 : w130.cell? ⟨gb761, 2, none⟩ = some (.string (⟨#[]⟩ : ByteArray)) := (blk_cell BK761.out 2).trans rfl; have hfz131_0 := blk_frozen BK761.out 0; have hfz131_1 := blk_frozen BK761.out 1; have hfz131_2 := blk_frozen BK761.out 2) | ((with_reducible refine gate_callee (f := 16) rfl ?_); refine goesL_ (some 211) rfl rfl Try.func16 (by kernel_rfl) rfl #[.slice Ao128 t752.length co128, .string t753, .int .i64 t754] rfl (by (try simp only [List.map_toArray, List.map_cons, List.map_nil]); first | done | rfl | (simp only [List.length_drop, List.length_take]; rfl)) ?_; (with_reducible refine (spec_ValidProduct.calls k6 _ _ t752 t753 t754 t762 t763 t764 t765 _ ?side1 ?side2 A124.out).mono ?_); (case side1 => refine (Kd.R_reads' (e := 30) (base := w.heap.size) (ok := fun k_ => ((True ∧ some k_ ≠ (.slice Ao73 t738.length co73 : Value).ownBlock) ∧ k_ ≠ gb761)) (n := t752.length) (c := co128) ?_).2.2; exact (by (with_reducible repeat (first | apply Kd.R_alloc | apply Kd.R_drewN | apply Kd.R_drew)); exact (Kd.R_mono (Kd.R_far (p := ⟨gb761, 2, none⟩) (Kd.R_far (p := ⟨gb761, 1, none⟩) (Kd.R_far (p := ⟨gb761, 0, none⟩) (Kd.R_mono HO756.out (fun k_ hk => (⟨hk, hk.2⟩ : _ ∧ k_ ≠ gb761))) (fun _ hk => hk.2) (.string t757)) (fun _ hk => hk.2) (.int .i64 t758)) (fun _ hk => hk.2) (.string t759)) (fun _ h_ => h_.1)))); (case side2 => exact (Kd.R_reads' HO756.out).2.1); rintro e w132 ⟨rfl, hb⟩; refine ⟨_, rfl, ?_⟩; have n0_ := Aside0.mk (Kd.R_below (by (with_reducible repeat (first | apply Kd.R_alloc | apply Kd.R_drewN | apply Kd.R_drew)); exact (Kd.R_mono (Kd.R_far (p := ⟨gb761, 2, none⟩) (Kd.R_far (p := ⟨gb761, 1, none⟩) (Kd.R_far (p := ⟨gb761, 0, none⟩) (Kd.R_mono HO_19.out (fun k_ hk => (⟨hk, hk.2⟩ : _ ∧ k_ ≠ gb761))) (fun _ hk => hk.2) (.string t757)) (fun _ hk => hk.2) (.int .i64 t758)) (fun _ hk => hk.2) (.string t759)) (fun _ h_ => h_.1))) hb); have n1_ := Aside0.mk (Kd.R_below (by (with_reducible repeat (first | apply Kd.R_alloc | apply Kd.R_drewN | apply Kd.R_drew)); exact (Kd.R_mono (Kd.R_far (p := ⟨gb761, 2, none⟩) (Kd.R_far (p := ⟨gb761, 1, none⟩) (Kd.R_far (p := ⟨gb761, 0, none⟩) (Kd.R_types HO_22.out BK761.out (by decide)) (fun _ hk => hk.2) (.string t757)) (fun _ hk => hk.2) (.int .i64 t758)) (fun _ hk => hk.2) (.string t759)) (fun _ h_ => h_.1))) hb); have n2_ := Aside0.mk (Kd.R_below (by (with_reducible repeat (first | apply Kd.R_alloc | apply Kd.R_drewN | apply Kd.R_drew)); exact (Kd.R_mono (Kd.R_far (p := ⟨gb761, 2, none⟩) (Kd.R_far (p := ⟨gb761, 1, none⟩) (Kd.R_far (p := ⟨gb761, 0, none⟩) (Kd.R_mono HO756.out (fun k_ hk => (⟨hk, hk.2⟩ : _ ∧ k_ ≠ gb761))) (fun _ hk => hk.2) (.string t757)) (fun _ hk => hk.2) (.int .i64 t758)) (fun _ hk => hk.2) (.string t759)) (fun _ h_ => h_.1))) hb); have n3_ := Aside0.mk (blk_below (g := gb761) (o := .cells #[.string t757, .int .i64 t758, .string t759] 30 (0, 0)) (by (with_reducible repeat (first | refine blk_drewN ?_ _ | refine blk_drew ?_ | refine blk_alloc ?_ _)); refine blk_put (cs := #[.string t757, .int .i64 t758, .string (⟨#[]⟩ : ByteArray)]) ?_ 2 _ rfl; (with_reducible repeat (first | refine blk_drewN ?_ _ | refine blk_drew ?_ | refine blk_alloc ?_ _)); refine blk_put (cs := #[.string t757, .int .i64 0, .string (⟨#[]⟩ : ByteArray)]) ?_ 1 _ rfl; (with_reducible repeat (first | refine blk_drewN ?_ _ | refine blk_drew ?_ | refine blk_alloc ?_ _)); refine blk_put (cs := #[.string (⟨#[]⟩ : ByteArray), .int .i64 0, .string (⟨#[]⟩ : ByteArray)]) ?_ 0 _ rfl; (with_reducible repeat (first | refine blk_drewN ?_ _ | refine blk_drew ?_ | refine blk_alloc ?_ _)); exact BK761.out) hb); have n4_ := Aside0.mk (below_step (by repeat (first | (with_reducible first | exact HB.out | apply below_alloc | apply pw_below_drewN | apply below_drew1 | refine below_set ?_ GE761.out) | exact HB.out)) hb); clear HO_19; clear HO_22; clear HO756; clear BK761; clear HB; have HO_19 := n0_; have HO_22 := n1_; have HO756 := n2_; have BK761 := n3_; have HB := n4_; clear n0_ n1_ n2_ n3_ n4_; (try clear hb); (try clear hb2); (try clear hk); (try clear hi)) | ((with_reducible refine gate_dst (N := 36) rfl ?_); refine box_event ?hg (N := 36) ?hd (cs := #[.string (⟨#[]⟩ : ByteArray), .int .i64 0, .string (⟨#[]⟩ : ByteArray)]) (t := 30) ?hr ?_; (case hd => rfl); (case hg => rfl); (case hr => first | (go_simp; done) | (go_simp; rfl)); intro gb766 hg w133 hbox hb; have n0_ := Aside0.mk (Kd.R_below (Kd.R_elderB (by (with_reducible repeat (first | apply Kd.R_alloc | apply Kd.R_drewN | apply Kd.R_drew)); exact HO_19.out) gb766 (Nat.le_of_eq hg.symm)) hb); have n1_ := Aside0.mk (Kd.R_below (by (with_reducible repeat (first | apply Kd.R_alloc | apply Kd.R_drewN | apply Kd.R_drew)); exact HO_22.out) hb); have n2_ := Aside0.mk (Kd.R_below (Kd.R_elderB (by (with_reducible repeat (first | apply Kd.R_alloc | apply Kd.R_drewN | apply Kd.R_drew)); exact HO756.out) gb766 (Nat.le_of_eq hg.symm)) hb); have n3_ := Aside0.mk (blk_below (g := gb761) (o := .cells #[.string t757, .int .i64 t758, .string t759] 30 (0, 0)) BK761.out hb); have n4_ := Aside0.mk (below_step (by repeat (first | (with_reducible first | exact HB.out | apply below_alloc | apply pw_below_drewN | apply below_drew1 | refine below_set ?_ GE761.out) | exact HB.out)) hb); have n5_ := Aside0.mk (hbox); have n6_ := Aside0.mk ((by rw [hg]; exact (below_size (by repeat (first | (with_reducible first | exact HB.out | apply below_alloc | apply pw_below_drewN | apply below_drew1 | refine below_set ?_ GE761.out) | exact HB.out))) : w.heap.size ≤ gb766)); have n7_ := Aside0.mk ((by rw [hg]; exact (below_size (by repeat (first | (with_reducible first | exact HB.out | apply below_alloc | apply pw_below_drewN | apply below_drew1 | refine below_set ?_ GE761.out) | exact HB.out))) : w.heap.size ≤ gb766)); have n8_ := Aside0.mk ((by rw [hg]; exact Nat.ne_of_lt (blk_lt (g := gb761) (o := .cells #[.string t757, .int .i64 t758, .string t759] 30 (0, 0)) BK761.out) : gb761 ≠ gb766)); have n9_ := Aside0.mk ((by rw [hg]; exact Nat.ne_of_gt (blk_lt (g := gb761) (o := .cells #[.string t757, .int .i64 t758, .string t759] 30 (0, 0)) BK761.out) : gb766 ≠ gb761)); clear HO_19; clear HO_22; clear HO756; clear BK761; clear HB; have HO_19 := n0_; have HO_22 := n1_; have HO756 := n2_; have BK761 := n3_; have HB := n4_; have BK766 := n5_; have GW766 := n6_; have GE766 := n7_; have NB761_766 := n8_; have NB766_761 := n9_; clear n0_ n1_ n2_ n3_ n4_ n5_ n6_ n7_ n8_ n9_; clear hb hbox hg; have hnb134 := NB766_761.out; have hnc134 := NB761_766.out; have hcz135_0 : w133.cell? ⟨gb766, 0, none⟩ = some (.string (⟨#[]⟩ : ByteArray)) := (blk_cell BK766.out 0).trans rfl; have hcz135_1 : w133.cell? ⟨gb766, 1, none⟩ = some (.int .i64 0) := (blk_cell BK766.out 1).trans rfl; have hcz135_2 : w133.cell? ⟨gb766, 2, none⟩ = some (.string (⟨#[]⟩ : ByteArray)) := (blk_cell BK766.out 2).trans rfl; have hfz135_0 := blk_frozen BK766.out 0; have hfz135_1 := blk_frozen BK766.out 1; have hfz135_2 := blk_frozen BK766.out 2; have hcz136_0 : w133.cell? ⟨gb761, 0, none⟩ = some (.string t757) := (blk_cell BK761.out 0).trans rfl; have hcz136_1 : w133.cell? ⟨gb761, 1, none⟩ = some (.int .i64 t758) := (blk_cell BK761.out 1).trans rfl; have hcz136_2 : w133.cell? ⟨gb761, 2, none⟩ = some (.string t759) := (blk_cell BK761.out 2).trans rfl; have hfz136_0 := blk_frozen BK761.out 0; have hfz136_1 := blk_frozen BK761.out 1; have hfz136_2 := blk_frozen BK761.out 2))
                    go_ret
                    exact ⟨by first | rfl | (simp [errW_none, errW_some] <;> rfl) | (simp [*, errW_none, errW_some] <;> rfl), by repeat (first | (with_reducible first | exact HB.out | apply below_alloc | apply pw_below_drewN | apply below_drew1 | refine below_set ?_ GE761.out | refine below_set ?_ GE766.out) | exact HB.out)⟩
                   rw [if_pos c81] at H
                   have c81b0 : decide (x26_6 < (t743.length : Int)) = true := decide_eq_true c81
                   clear c81
                   by_cases c82 : 0 ≤ x26_6
                   rotate_left
                   ·
                    rw [if_neg c82] at H
                    exact absurd H (by simp)
                   rw [if_pos c82] at H
                   have c82b0 : decide (0 ≤ x26_6) = true := decide_eq_true c82
                   clear c82
                   replace H := Option.bind_eq_some_iff.mp H
                   obtain ⟨⟨t768, t769, t770, t771⟩, A830, H⟩ := H
                   replace H : ((impl_ValidProduct.f k6 t738 (rdOf ByteArray.empty t743 x26_6) t739).bind fun bt774 => (if t771 = true then (if bt774.2.2.2 = true then (if bt774.2.2.1.toList = t770.toList then (some false) else (laws_FnPruning.l2 k6 l0 t738 t739 t740 t743 (wrap64 (x26_6 + 1)))) else (laws_FnPruning.l2 k6 l0 t738 t739 t740 t743 (wrap64 (x26_6 + 1)))) else (some false))) = some r := H
                   have A83 := Aside0.mk A830
                   clear A830
                   replace H := Option.bind_eq_some_iff.mp H
                   obtain ⟨⟨t774, t775, t776, t777⟩, A840, H⟩ := H
                   replace H : (if t771 = true then (if t777 = true then (if t776.toList = t770.toList then (some false) else (laws_FnPruning.l2 k6 l0 t738 t739 t740 t743 (wrap64 (x26_6 + 1)))) else (laws_FnPruning.l2 k6 l0 t738 t739 t740 t743 (wrap64 (x26_6 + 1)))) else (some false)) = some r := H
                   have A84 := Aside0.mk A840
                   clear A840
                   by_cases c85 : t771 = true
                   rotate_left
                   ·
                    replace c85 := Bool.eq_false_iff.mpr c85
                    subst c85
                    have H1 : (some false) = some r := by rw [if_neg (show ¬ (false = true) by decide)] at H; exact H
                    exact absurd ((Option.some.inj H1).trans hrt_) (by decide)
                   subst c85
                   have H1 : (if t777 = true then (if t776.toList = t770.toList then (some false) else (laws_FnPruning.l2 k6 l0 t738 t739 t740 t743 (wrap64 (x26_6 + 1)))) else (laws_FnPruning.l2 k6 l0 t738 t739 t740 t743 (wrap64 (x26_6 + 1)))) = some r := by rw [if_pos rfl] at H; exact H
                   clear H
                   have H := H1
                   clear H1
                   by_cases c86 : t777 = true
                   rotate_left
                   ·
                    replace c86 := Bool.eq_false_iff.mpr c86
                    subst c86
                    have H1 : (laws_FnPruning.l2 k6 l0 t738 t739 t740 t743 (wrap64 (x26_6 + 1))) = some r := by rw [if_neg (show ¬ (false = true) by decide)] at H; exact H
                    clear H
                    have H := H1
                    clear H1
                    have H' := Aside0.mk H
                    clear H
                    obtain ⟨Ao106, co106, eo106⟩ := Kd.R_slice HO_22.out
                    subst eo106
                    have p767 : 0 ≤ (x26_6 : Int) := of_decide_eq_true (by first | (with_reducible assumption) | assumption)
                    have q767 : x26_6 < (t743.length : Int) := of_decide_eq_true (by first | (with_reducible assumption) | assumption)
                    obtain ⟨ad767, e767, hx767_0⟩ := Kd.at_string (Kd.R_reads' HO_22.out).2.2 x26_6 p767 q767
                    cases e767
                    replace p767 := eq_true p767
                    replace q767 := eq_true q767
                    go_wp2_with (first | ((with_reducible refine gate_callee (f := 17) rfl ?_); refine goesL_ (some 169) rfl rfl Try.func17 (by kernel_rfl) rfl #[.slice Ao73 t738.length co73, .string (rdOf ByteArray.empty t743 x26_6), .int .i64 t740] rfl (by (try simp only [List.map_toArray, List.map_cons, List.map_nil]); first | done | rfl | (simp only [List.length_drop, List.length_take]; rfl)) ?_; (with_reducible refine (impl_ValidProduct.calls k6 _ _ t738 (rdOf ByteArray.empty t743 x26_6) t740 t768 t769 t770 true _ ?side1 ?side2 A83.out).mono ?_); (case side1 => repeat (first | exact (Kd.R_reads' HO_19.out).2.2 | (with_reducible refine Kd.C_alloc ?_ _) | (with_reducible refine Kd.C_drewN ?_ _) | (with_reducible refine Kd.C_drew ?_))); (case side2 => exact (Kd.R_reads' HO_19.out).2.1); rintro e w107 ⟨rfl, hb⟩; refine ⟨_, rfl, ?_⟩; have n0_ := Aside0.mk (Kd.R_below (by (with_reducible repeat (first | apply Kd.R_alloc | apply Kd.R_drewN | apply Kd.R_drew)); exact HO_19.out) hb); have n1_ := Aside0.mk (Kd.R_below (by (with_reducible repeat (first | apply Kd.R_alloc | apply Kd.R_drewN | apply Kd.R_drew)); exact HO_22.out) hb); have n2_ := Aside0.mk (below_step (by repeat (first | (with_reducible first | exact HB.out | apply below_alloc | apply pw_below_drewN | apply below_drew1) | exact HB.out)) hb); clear HO_19; clear HO_22; clear HB; have HO_19 := n0_; have HO_22 := n1_; have HB := n2_; clear n0_ n1_ n2_; (try clear hb); (try clear hb2); (try clear hk); (try clear hi)) | ((with_reducible refine gate_dst (N := 27) rfl ?_); refine box_event ?hg (N := 27) ?hd (cs := #[.string (⟨#[]⟩ : ByteArray), .int .i64 0, .string (⟨#[]⟩ : ByteArray)]) (t := 30) ?hr ?_; (case hd => rfl); (case hg => rfl); (case hr => first | (go_simp; done) | (go_simp; rfl)); intro gb772 hg w108 hbox hb; have n0_ := Aside0.mk (Kd.R_below (Kd.R_elderB (by (with_reducible repeat (first | apply Kd.R_alloc | apply Kd.R_drewN | apply Kd.R_drew)); exact HO_19.out) gb772 (Nat.le_of_eq hg.symm)) hb); have n1_ := Aside0.mk (Kd.R_below (by (with_reducible repeat (first | apply Kd.R_alloc | apply Kd.R_drewN | apply Kd.R_drew)); exact HO_22.out) hb); have n2_ := Aside0.mk (below_step (by repeat (first | (with_reducible first | exact HB.out | apply below_alloc | apply pw_below_drewN | apply below_drew1) | exact HB.out)) hb); have n3_ := Aside0.mk (hbox); have n4_ := Aside0.mk ((by rw [hg]; exact (below_size (by repeat (first | (with_reducible first | exact HB.out | apply below_alloc | apply pw_below_drewN | apply below_drew1) | exact HB.out))) : w.heap.size ≤ gb772)); have n5_ := Aside0.mk ((by rw [hg]; exact (below_size (by repeat (first | (with_reducible first | exact HB.out | apply below_alloc | apply pw_below_drewN | apply below_drew1) | exact HB.out))) : w.heap.size ≤ gb772)); clear HO_19; clear HO_22; clear HB; have HO_19 := n0_; have HO_22 := n1_; have HB := n2_; have BK772 := n3_; have GW772 := n4_; have GE772 := n5_; clear n0_ n1_ n2_ n3_ n4_ n5_; clear hb hbox hg; have hcz109_0 : w108.cell? ⟨gb772, 0, none⟩ = some (.string (⟨#[]⟩ : ByteArray)) := (blk_cell BK772.out 0).trans rfl; have hcz109_1 : w108.cell? ⟨gb772, 1, none⟩ = some (.int .i64 0) := (blk_cell BK772.out 1).trans rfl; have hcz109_2 : w108.cell? ⟨gb772, 2, none⟩ = some (.string (⟨#[]⟩ : ByteArray)) := (blk_cell BK772.out 2).trans rfl; have hfz109_0 := blk_frozen BK772.out 0; have hfz109_1 := blk_frozen BK772.out 1; have hfz109_2 := blk_frozen BK772.out 2; have p773 : 0 ≤ (x26_6 : Int) := of_decide_eq_true (by first | (with_reducible assumption) | assumption); have q773 : x26_6 < (t743.length : Int) := of_decide_eq_true (by first | (with_reducible assumption) | assumption); obtain ⟨ad773, e773, hx773_0⟩ := Kd.at_string (Kd.R_reads' HO_22.out).2.2 x26_6 p773 q773; obtain rfl : ad767 = ad773 := (by injection e773); have hn773_0 : ad767.block ≠ gb772 := Kd.own_blk (Kd.R_ne HO_22.out BK772.out (by decide)); have hn773_1 : ad767.block ≠ gb772 := Kd.own_blk (Kd.R_ne HO_22.out BK772.out (by decide)); have hn773_2 : ad767.block ≠ gb772 := Kd.own_blk (Kd.R_ne HO_22.out BK772.out (by decide)); replace hx773_0 := (cell_far (p := ⟨gb772, 0, none⟩) (by first | (rw [add_block]; exact hn773_0) | (show (Addr.add _ _).block ≠ _; rw [add_block]; exact hn773_0) | exact hn773_0) (.string t768)).trans hx773_0; replace hx773_0 := (cell_far (p := ⟨gb772, 1, none⟩) (by first | (rw [add_block]; exact hn773_1) | (show (Addr.add _ _).block ≠ _; rw [add_block]; exact hn773_1) | exact hn773_1) (.int .i64 t769)).trans hx773_0; replace hx773_0 := (cell_far (p := ⟨gb772, 2, none⟩) (by first | (rw [add_block]; exact hn773_2) | (show (Addr.add _ _).block ≠ _; rw [add_block]; exact hn773_2) | exact hn773_2) (.string t770)).trans hx773_0; clear hn773_0; clear hn773_1; clear hn773_2; replace p773 := eq_true p773; replace q773 := eq_true q773) | ((with_reducible refine gate_callee (f := 17) rfl ?_); refine goesL_ (some 179) rfl rfl Try.func17 (by kernel_rfl) rfl #[.slice Ao73 t738.length co73, .string (rdOf ByteArray.empty t743 x26_6), .int .i64 t739] rfl (by (try simp only [List.map_toArray, List.map_cons, List.map_nil]); first | done | rfl | (simp only [List.length_drop, List.length_take]; rfl)) ?_; (with_reducible refine (impl_ValidProduct.calls k6 _ _ t738 (rdOf ByteArray.empty t743 x26_6) t739 t774 t775 t776 false _ ?side1 ?side2 A84.out).mono ?_); (case side1 => refine (Kd.R_reads' (e := 30) (base := w.heap.size) (ok := fun k_ => (True ∧ k_ ≠ gb772)) (n := t738.length) (c := co73) ?_).2.2; exact (by (with_reducible repeat (first | apply Kd.R_alloc | apply Kd.R_drewN | apply Kd.R_drew)); exact (Kd.R_mono (Kd.R_far (p := ⟨gb772, 2, none⟩) (Kd.R_far (p := ⟨gb772, 1, none⟩) (Kd.R_far (p := ⟨gb772, 0, none⟩) (Kd.R_mono HO_19.out (fun k_ hk => (⟨hk, hk.2⟩ : _ ∧ k_ ≠ gb772))) (fun _ hk => hk.2) (.string t768)) (fun _ hk => hk.2) (.int .i64 t769)) (fun _ hk => hk.2) (.string t770)) (fun _ h_ => h_.1)))); (case side2 => exact (Kd.R_reads' HO_19.out).2.1); rintro e w110 ⟨rfl, hb⟩; refine ⟨_, rfl, ?_⟩; have n0_ := Aside0.mk (Kd.R_below (by (with_reducible repeat (first | apply Kd.R_alloc | apply Kd.R_drewN | apply Kd.R_drew)); exact (Kd.R_mono (Kd.R_far (p := ⟨gb772, 2, none⟩) (Kd.R_far (p := ⟨gb772, 1, none⟩) (Kd.R_far (p := ⟨gb772, 0, none⟩) (Kd.R_mono HO_19.out (fun k_ hk => (⟨hk, hk.2⟩ : _ ∧ k_ ≠ gb772))) (fun _ hk => hk.2) (.string t768)) (fun _ hk => hk.2) (.int .i64 t769)) (fun _ hk => hk.2) (.string t770)) (fun _ h_ => h_.1))) hb); have n1_ := Aside0.mk (Kd.R_below (by (with_reducible repeat (first | apply Kd.R_alloc | apply Kd.R_drewN | apply Kd.R_drew)); exact (Kd.R_mono (Kd.R_far (p := ⟨gb772, 2, none⟩) (Kd.R_far (p := ⟨gb772, 1, none⟩) (Kd.R_far (p := ⟨gb772, 0, none⟩) (Kd.R_types HO_22.out BK772.out (by decide)) (fun _ hk => hk.2) (.string t768)) (fun _ hk => hk.2) (.int .i64 t769)) (fun _ hk => hk.2) (.string t770)) (fun _ h_ => h_.1))) hb); have n2_ := Aside0.mk (blk_below (g := gb772) (o := .cells #[.string t768, .int .i64 t769, .string t770] 30 (0, 0)) (by (with_reducible repeat (first | refine blk_drewN ?_ _ | refine blk_drew ?_ | refine blk_alloc ?_ _)); refine blk_put (cs := #[.string t768, .int .i64 t769, .string (⟨#[]⟩ : ByteArray)]) ?_ 2 _ rfl; (with_reducible repeat (first | refine blk_drewN ?_ _ | refine blk_drew ?_ | refine blk_alloc ?_ _)); refine blk_put (cs := #[.string t768, .int .i64 0, .string (⟨#[]⟩ : ByteArray)]) ?_ 1 _ rfl; (with_reducible repeat (first | refine blk_drewN ?_ _ | refine blk_drew ?_ | refine blk_alloc ?_ _)); refine blk_put (cs := #[.string (⟨#[]⟩ : ByteArray), .int .i64 0, .string (⟨#[]⟩ : ByteArray)]) ?_ 0 _ rfl; (with_reducible repeat (first | refine blk_drewN ?_ _ | refine blk_drew ?_ | refine blk_alloc ?_ _)); exact BK772.out) hb); have n3_ := Aside0.mk (below_step (by repeat (first | (with_reducible first | exact HB.out | apply below_alloc | apply pw_below_drewN | apply below_drew1 | refine below_set ?_ GE772.out) | exact HB.out)) hb); clear HO_19; clear HO_22; clear BK772; clear HB; have HO_19 := n0_; have HO_22 := n1_; have BK772 := n2_; have HB := n3_; clear n0_ n1_ n2_ n3_; (try clear hb); (try clear hb2); (try clear hk); (try clear hi)) | ((with_reducible refine gate_dst (N := 29) rfl ?_); refine box_event ?hg (N := 29) ?hd (cs := #[.string (⟨#[]⟩ : ByteArray), .int .i64 0, .string (⟨#[]⟩ : ByteArray)]) (t := 30) ?hr ?_; (case hd => rfl); (case hg => rfl); (case hr => first | (go_simp; done) | (go_simp; rfl)); intro gb778 hg w111 hbox hb; have n0_ := Aside0.mk (Kd.R_below (Kd.R_elderB (by (with_reducible repeat (first | apply Kd.R_alloc | apply Kd.R_drewN | apply Kd.R_drew)); exact HO_19.out) gb778 (Nat.le_of_eq hg.symm)) hb); have n1_ := Aside0.mk (Kd.R_below (by (with_reducible repeat (first | apply Kd.R_alloc | apply Kd.R_drewN | apply Kd.R_drew)); exact HO_22.out) hb); have n2_ := Aside0.mk (blk_below (g := gb772) (o := .cells #[.string t768, .int .i64 t769, .string t770] 30 (0, 0)) BK772.out hb); have n3_ := Aside0.mk (below_step (by repeat (first | (with_reducible first | exact HB.out | apply below_alloc | apply pw_below_drewN | apply below_drew1 | refine below_set ?_ GE772.out) | exact HB.out)) hb); have n4_ := Aside0.mk (hbox); have n5_ := Aside0.mk ((by rw [hg]; exact (below_size (by repeat (first | (with_reducible first | exact HB.out | apply below_alloc | apply pw_below_drewN | apply below_drew1 | refine below_set ?_ GE772.out) | exact HB.out))) : w.heap.size ≤ gb778)); have n6_ := Aside0.mk ((by rw [hg]; exact (below_size (by repeat (first | (with_reducible first | exact HB.out | apply below_alloc | apply pw_below_drewN | apply below_drew1 | refine below_set ?_ GE772.out) | exact HB.out))) : w.heap.size ≤ gb778)); have n7_ := Aside0.mk ((by rw [hg]; exact Nat.ne_of_lt (blk_lt (g := gb772) (o := .cells #[.string t768, .int .i64 t769, .string t770] 30 (0, 0)) BK772.out) : gb772 ≠ gb778)); have n8_ := Aside0.mk ((by rw [hg]; exact Nat.ne_of_gt (blk_lt (g := gb772) (o := .cells #[.string t768, .int .i64 t769, .string t770] 30 (0, 0)) BK772.out) : gb778 ≠ gb772)); clear HO_19; clear HO_22; clear BK772; clear HB; have HO_19 := n0_; have HO_22 := n1_; have BK772 := n2_; have HB := n3_; have BK778 := n4_; have GW778 := n5_; have GE778 := n6_; have NB772_778 := n7_; have NB778_772 := n8_; clear n0_ n1_ n2_ n3_ n4_ n5_ n6_ n7_ n8_; clear hb hbox hg; have hnb112 := NB778_772.out; have hnc112 := NB772_778.out; have hcz113_0 : w111.cell? ⟨gb778, 0, none⟩ = some (.string (⟨#[]⟩ : ByteArray)) := (blk_cell BK778.out 0).trans rfl; have hcz113_1 : w111.cell? ⟨gb778, 1, none⟩ = some (.int .i64 0) := (blk_cell BK778.out 1).trans rfl; have hcz113_2 : w111.cell? ⟨gb778, 2, none⟩ = some (.string (⟨#[]⟩ : ByteArray)) := (blk_cell BK778.out 2).trans rfl; have hfz113_0 := blk_frozen BK778.out 0; have hfz113_1 := blk_frozen BK778.out 1; have hfz113_2 := blk_frozen BK778.out 2))
                    go_roundg k6
                    case measure => have := HJ6.out; have := HJ18.out; have := HK3.out; have := HJ26.out; have := HJ70.out; have := HK6.out; omega
                    case rel => exact ⟨(wrap64 (x26_6 + 1)), (by first | rfl | (simp; done) | (simp [*]; done)), H', ⟨by have := HJ6.out; have := HJ18.out; have := HK3.out; have := HJ26.out; have := HJ70.out; have := HK6.out; omega⟩, ⟨by (with_reducible repeat (first | apply Kd.R_alloc | apply Kd.R_drewN | apply Kd.R_drew)); exact Kd.R_mono (Kd.R_far (p := ⟨gb778, 2, none⟩) (Kd.R_far (p := ⟨gb778, 1, none⟩) (Kd.R_far (p := ⟨gb778, 0, none⟩) (Kd.R_mono HO_19.out (fun k_ hk => (⟨hk, hk.2⟩ : _ ∧ k_ ≠ gb778))) (fun _ hk => hk.2) (.string t774)) (fun _ hk => hk.2) (.int .i64 t775)) (fun _ hk => hk.2) (.string t776)) (fun _ hk => trivial)⟩, ⟨by (with_reducible repeat (first | apply Kd.R_alloc | apply Kd.R_drewN | apply Kd.R_drew)); exact Kd.R_mono (Kd.R_far (p := ⟨gb778, 2, none⟩) (Kd.R_far (p := ⟨gb778, 1, none⟩) (Kd.R_far (p := ⟨gb778, 0, none⟩) (Kd.R_types HO_22.out BK778.out (by decide)) (fun _ hk => hk.2) (.string t774)) (fun _ hk => hk.2) (.int .i64 t775)) (fun _ hk => hk.2) (.string t776)) (fun _ hk => trivial)⟩, ⟨by repeat (first | (with_reducible first | exact HB.out | apply below_alloc | apply pw_below_drewN | apply below_drew1 | refine below_set ?_ GE772.out | refine below_set ?_ GE778.out) | exact HB.out)⟩⟩
                   subst c86
                   have H1 : (if t776.toList = t770.toList then (some false) else (laws_FnPruning.l2 k6 l0 t738 t739 t740 t743 (wrap64 (x26_6 + 1)))) = some r := by rw [if_pos rfl] at H; exact H
                   clear H
                   have H := H1
                   clear H1
                   by_cases c87 : t776.toList = t770.toList
                   ·
                    rw [if_pos c87] at H
                    have c87b0 : (t776.toList == t770.toList) = true := beq_iff_eq.mpr c87
                    have c87b1 : (t776.toList != t770.toList) = false := bne_eq_false_iff_eq.mpr c87
                    clear c87
                    exact absurd ((Option.some.inj H).trans hrt_) (by decide)
                   rw [if_neg c87] at H
                   have c87b0 : (t776.toList == t770.toList) = false := beq_eq_false_iff_ne.mpr c87
                   have c87b1 : (t776.toList != t770.toList) = true := bne_iff_ne.mpr c87
                   have H' := Aside0.mk H
                   clear H
                   obtain ⟨Ao97, co97, eo97⟩ := Kd.R_slice HO_22.out
                   subst eo97
                   have p767 : 0 ≤ (x26_6 : Int) := of_decide_eq_true (by first | (with_reducible assumption) | assumption)
                   have q767 : x26_6 < (t743.length : Int) := of_decide_eq_true (by first | (with_reducible assumption) | assumption)
                   obtain ⟨ad767, e767, hx767_0⟩ := Kd.at_string (Kd.R_reads' HO_22.out).2.2 x26_6 p767 q767
                   cases e767
                   replace p767 := eq_true p767
                   replace q767 := eq_true q767
                   go_wp2_with (first | ((with_reducible refine gate_callee (f := 17) rfl ?_); refine goesL_ (some 169) rfl rfl Try.func17 (by kernel_rfl) rfl #[.slice Ao73 t738.length co73, .string (rdOf ByteArray.empty t743 x26_6), .int .i64 t740] rfl (by (try simp only [List.map_toArray, List.map_cons, List.map_nil]); first | done | rfl | (simp only [List.length_drop, List.length_take]; rfl)) ?_; (with_reducible refine (impl_ValidProduct.calls k6 _ _ t738 (rdOf ByteArray.empty t743 x26_6) t740 t768 t769 t770 true _ ?side1 ?side2 A83.out).mono ?_); (case side1 => repeat (first | exact (Kd.R_reads' HO_19.out).2.2 | (with_reducible refine Kd.C_alloc ?_ _) | (with_reducible refine Kd.C_drewN ?_ _) | (with_reducible refine Kd.C_drew ?_))); (case side2 => exact (Kd.R_reads' HO_19.out).2.1); rintro e w98 ⟨rfl, hb⟩; refine ⟨_, rfl, ?_⟩; have n0_ := Aside0.mk (Kd.R_below (by (with_reducible repeat (first | apply Kd.R_alloc | apply Kd.R_drewN | apply Kd.R_drew)); exact HO_19.out) hb); have n1_ := Aside0.mk (Kd.R_below (by (with_reducible repeat (first | apply Kd.R_alloc | apply Kd.R_drewN | apply Kd.R_drew)); exact HO_22.out) hb); have n2_ := Aside0.mk (below_step (by repeat (first | (with_reducible first | exact HB.out | apply below_alloc | apply pw_below_drewN | apply below_drew1) | exact HB.out)) hb); clear HO_19; clear HO_22; clear HB; have HO_19 := n0_; have HO_22 := n1_; have HB := n2_; clear n0_ n1_ n2_; (try clear hb); (try clear hb2); (try clear hk); (try clear hi)) | ((with_reducible refine gate_dst (N := 27) rfl ?_); refine box_event ?hg (N := 27) ?hd (cs := #[.string (⟨#[]⟩ : ByteArray), .int .i64 0, .string (⟨#[]⟩ : ByteArray)]) (t := 30) ?hr ?_; (case hd => rfl); (case hg => rfl); (case hr => first | (go_simp; done) | (go_simp; rfl)); intro gb772 hg w99 hbox hb; have n0_ := Aside0.mk (Kd.R_below (Kd.R_elderB (by (with_reducible repeat (first | apply Kd.R_alloc | apply Kd.R_drewN | apply Kd.R_drew)); exact HO_19.out) gb772 (Nat.le_of_eq hg.symm)) hb); have n1_ := Aside0.mk (Kd.R_below (by (with_reducible repeat (first | apply Kd.R_alloc | apply Kd.R_drewN | apply Kd.R_drew)); exact HO_22.out) hb); have n2_ := Aside0.mk (below_step (by repeat (first | (with_reducible first | exact HB.out | apply below_alloc | apply pw_below_drewN | apply below_drew1) | exact HB.out)) hb); have n3_ := Aside0.mk (hbox); have n4_ := Aside0.mk ((by rw [hg]; exact (below_size (by repeat (first | (with_reducible first | exact HB.out | apply below_alloc | apply pw_below_drewN | apply below_drew1) | exact HB.out))) : w.heap.size ≤ gb772)); have n5_ := Aside0.mk ((by rw [hg]; exact (below_size (by repeat (first | (with_reducible first | exact HB.out | apply below_alloc | apply pw_below_drewN | apply below_drew1) | exact HB.out))) : w.heap.size ≤ gb772)); clear HO_19; clear HO_22; clear HB; have HO_19 := n0_; have HO_22 := n1_; have HB := n2_; have BK772 := n3_; have GW772 := n4_; have GE772 := n5_; clear n0_ n1_ n2_ n3_ n4_ n5_; clear hb hbox hg; have hcz100_0 : w99.cell? ⟨gb772, 0, none⟩ = some (.string (⟨#[]⟩ : ByteArray)) := (blk_cell BK772.out 0).trans rfl; have hcz100_1 : w99.cell? ⟨gb772, 1, none⟩ = some (.int .i64 0) := (blk_cell BK772.out 1).trans rfl; have hcz100_2 : w99.cell? ⟨gb772, 2, none⟩ = some (.string (⟨#[]⟩ : ByteArray)) := (blk_cell BK772.out 2).trans rfl; have hfz100_0 := blk_frozen BK772.out 0; have hfz100_1 := blk_frozen BK772.out 1; have hfz100_2 := blk_frozen BK772.out 2; have p773 : 0 ≤ (x26_6 : Int) := of_decide_eq_true (by first | (with_reducible assumption) | assumption); have q773 : x26_6 < (t743.length : Int) := of_decide_eq_true (by first | (with_reducible assumption) | assumption); obtain ⟨ad773, e773, hx773_0⟩ := Kd.at_string (Kd.R_reads' HO_22.out).2.2 x26_6 p773 q773; obtain rfl : ad767 = ad773 := (by injection e773); have hn773_0 : ad767.block ≠ gb772 := Kd.own_blk (Kd.R_ne HO_22.out BK772.out (by decide)); have hn773_1 : ad767.block ≠ gb772 := Kd.own_blk (Kd.R_ne HO_22.out BK772.out (by decide)); have hn773_2 : ad767.block ≠ gb772 := Kd.own_blk (Kd.R_ne HO_22.out BK772.out (by decide)); replace hx773_0 := (cell_far (p := ⟨gb772, 0, none⟩) (by first | (rw [add_block]; exact hn773_0) | (show (Addr.add _ _).block ≠ _; rw [add_block]; exact hn773_0) | exact hn773_0) (.string t768)).trans hx773_0; replace hx773_0 := (cell_far (p := ⟨gb772, 1, none⟩) (by first | (rw [add_block]; exact hn773_1) | (show (Addr.add _ _).block ≠ _; rw [add_block]; exact hn773_1) | exact hn773_1) (.int .i64 t769)).trans hx773_0; replace hx773_0 := (cell_far (p := ⟨gb772, 2, none⟩) (by first | (rw [add_block]; exact hn773_2) | (show (Addr.add _ _).block ≠ _; rw [add_block]; exact hn773_2) | exact hn773_2) (.string t770)).trans hx773_0; clear hn773_0; clear hn773_1; clear hn773_2; replace p773 := eq_true p773; replace q773 := eq_true q773) | ((with_reducible refine gate_callee (f := 17) rfl ?_); refine goesL_ (some 179) rfl rfl Try.func17 (by kernel_rfl) rfl #[.slice Ao73 t738.length co73, .string (rdOf ByteArray.empty t743 x26_6), .int .i64 t739] rfl (by (try simp only [List.map_toArray, List.map_cons, List.map_nil]); first | done | rfl | (simp only [List.length_drop, List.length_take]; rfl)) ?_; (with_reducible refine (impl_ValidProduct.calls k6 _ _ t738 (rdOf ByteArray.empty t743 x26_6) t739 t774 t775 t776 true _ ?side1 ?side2 A84.out).mono ?_); (case side1 => refine (Kd.R_reads' (e := 30) (base := w.heap.size) (ok := fun k_ => (True ∧ k_ ≠ gb772)) (n := t738.length) (c := co73) ?_).2.2; exact (by (with_reducible repeat (first | apply Kd.R_alloc | apply Kd.R_drewN | apply Kd.R_drew)); exact (Kd.R_mono (Kd.R_far (p := ⟨gb772, 2, none⟩) (Kd.R_far (p := ⟨gb772, 1, none⟩) (Kd.R_far (p := ⟨gb772, 0, none⟩) (Kd.R_mono HO_19.out (fun k_ hk => (⟨hk, hk.2⟩ : _ ∧ k_ ≠ gb772))) (fun _ hk => hk.2) (.string t768)) (fun _ hk => hk.2) (.int .i64 t769)) (fun _ hk => hk.2) (.string t770)) (fun _ h_ => h_.1)))); (case side2 => exact (Kd.R_reads' HO_19.out).2.1); rintro e w101 ⟨rfl, hb⟩; refine ⟨_, rfl, ?_⟩; have n0_ := Aside0.mk (Kd.R_below (by (with_reducible repeat (first | apply Kd.R_alloc | apply Kd.R_drewN | apply Kd.R_drew)); exact (Kd.R_mono (Kd.R_far (p := ⟨gb772, 2, none⟩) (Kd.R_far (p := ⟨gb772, 1, none⟩) (Kd.R_far (p := ⟨gb772, 0, none⟩) (Kd.R_mono HO_19.out (fun k_ hk => (⟨hk, hk.2⟩ : _ ∧ k_ ≠ gb772))) (fun _ hk => hk.2) (.string t768)) (fun _ hk => hk.2) (.int .i64 t769)) (fun _ hk => hk.2) (.string t770)) (fun _ h_ => h_.1))) hb); have n1_ := Aside0.mk (Kd.R_below (by (with_reducible repeat (first | apply Kd.R_alloc | apply Kd.R_drewN | apply Kd.R_drew)); exact (Kd.R_mono (Kd.R_far (p := ⟨gb772, 2, none⟩) (Kd.R_far (p := ⟨gb772, 1, none⟩) (Kd.R_far (p := ⟨gb772, 0, none⟩) (Kd.R_types HO_22.out BK772.out (by decide)) (fun _ hk => hk.2) (.string t768)) (fun _ hk => hk.2) (.int .i64 t769)) (fun _ hk => hk.2) (.string t770)) (fun _ h_ => h_.1))) hb); have n2_ := Aside0.mk (blk_below (g := gb772) (o := .cells #[.string t768, .int .i64 t769, .string t770] 30 (0, 0)) (by (with_reducible repeat (first | refine blk_drewN ?_ _ | refine blk_drew ?_ | refine blk_alloc ?_ _)); refine blk_put (cs := #[.string t768, .int .i64 t769, .string (⟨#[]⟩ : ByteArray)]) ?_ 2 _ rfl; (with_reducible repeat (first | refine blk_drewN ?_ _ | refine blk_drew ?_ | refine blk_alloc ?_ _)); refine blk_put (cs := #[.string t768, .int .i64 0, .string (⟨#[]⟩ : ByteArray)]) ?_ 1 _ rfl; (with_reducible repeat (first | refine blk_drewN ?_ _ | refine blk_drew ?_ | refine blk_alloc ?_ _)); refine blk_put (cs := #[.string (⟨#[]⟩ : ByteArray), .int .i64 0, .string (⟨#[]⟩ : ByteArray)]) ?_ 0 _ rfl; (with_reducible repeat (first | refine blk_drewN ?_ _ | refine blk_drew ?_ | refine blk_alloc ?_ _)); exact BK772.out) hb); have n3_ := Aside0.mk (below_step (by repeat (first | (with_reducible first | exact HB.out | apply below_alloc | apply pw_below_drewN | apply below_drew1 | refine below_set ?_ GE772.out) | exact HB.out)) hb); clear HO_19; clear HO_22; clear BK772; clear HB; have HO_19 := n0_; have HO_22 := n1_; have BK772 := n2_; have HB := n3_; clear n0_ n1_ n2_ n3_; (try clear hb); (try clear hb2); (try clear hk); (try clear hi)) | ((with_reducible refine gate_dst (N := 29) rfl ?_); refine box_event ?hg (N := 29) ?hd (cs := #[.string (⟨#[]⟩ : ByteArray), .int .i64 0, .string (⟨#[]⟩ : ByteArray)]) (t := 30) ?hr ?_; (case hd => rfl); (case hg => rfl); (case hr => first | (go_simp; done) | (go_simp; rfl)); intro gb778 hg w102 hbox hb; have n0_ := Aside0.mk (Kd.R_below (Kd.R_elderB (by (with_reducible repeat (first | apply Kd.R_alloc | apply Kd.R_drewN | apply Kd.R_drew)); exact HO_19.out) gb778 (Nat.le_of_eq hg.symm)) hb); have n1_ := Aside0.mk (Kd.R_below (by (with_reducible repeat (first | apply Kd.R_alloc | apply Kd.R_drewN | apply Kd.R_drew)); exact HO_22.out) hb); have n2_ := Aside0.mk (blk_below (g := gb772) (o := .cells #[.string t768, .int .i64 t769, .string t770] 30 (0, 0)) BK772.out hb); have n3_ := Aside0.mk (below_step (by repeat (first | (with_reducible first | exact HB.out | apply below_alloc | apply pw_below_drewN | apply below_drew1 | refine below_set ?_ GE772.out) | exact HB.out)) hb); have n4_ := Aside0.mk (hbox); have n5_ := Aside0.mk ((by rw [hg]; exact (below_size (by repeat (first | (with_reducible first | exact HB.out | apply below_alloc | apply pw_below_drewN | apply below_drew1 | refine below_set ?_ GE772.out) | exact HB.out))) : w.heap.size ≤ gb778)); have n6_ := Aside0.mk ((by rw [hg]; exact (below_size (by repeat (first | (with_reducible first | exact HB.out | apply below_alloc | apply pw_below_drewN | apply below_drew1 | refine below_set ?_ GE772.out) | exact HB.out))) : w.heap.size ≤ gb778)); have n7_ := Aside0.mk ((by rw [hg]; exact Nat.ne_of_lt (blk_lt (g := gb772) (o := .cells #[.string t768, .int .i64 t769, .string t770] 30 (0, 0)) BK772.out) : gb772 ≠ gb778)); have n8_ := Aside0.mk ((by rw [hg]; exact Nat.ne_of_gt (blk_lt (g := gb772) (o := .cells #[.string t768, .int .i64 t769, .string t770] 30 (0, 0)) BK772.out) : gb778 ≠ gb772)); clear HO_19; clear HO_22; clear BK772; clear HB; have HO_19 := n0_; have HO_22 := n1_; have BK772 := n2_; have HB := n3_; have BK778 := n4_; have GW778 := n5_; have GE778 := n6_; have NB772_778 := n7_; have NB778_772 := n8_; clear n0_ n1_ n2_ n3_ n4_ n5_ n6_ n7_ n8_; clear hb hbox hg; have hnb103 := NB778_772.out; have hnc103 := NB772_778.out; have hcz104_0 : w102.cell? ⟨gb778, 0, none⟩ = some (.string (⟨#[]⟩ : ByteArray)) := (blk_cell BK778.out 0).trans rfl; have hcz104_1 : w102.cell? ⟨gb778, 1, none⟩ = some (.int .i64 0) := (blk_cell BK778.out 1).trans rfl; have hcz104_2 : w102.cell? ⟨gb778, 2, none⟩ = some (.string (⟨#[]⟩ : ByteArray)) := (blk_cell BK778.out 2).trans rfl; have hfz104_0 := blk_frozen BK778.out 0; have hfz104_1 := blk_frozen BK778.out 1; have hfz104_2 := blk_frozen BK778.out 2; have hcz105_0 : w102.cell? ⟨gb772, 0, none⟩ = some (.string t768) := (blk_cell BK772.out 0).trans rfl; have hcz105_1 : w102.cell? ⟨gb772, 1, none⟩ = some (.int .i64 t769) := (blk_cell BK772.out 1).trans rfl; have hcz105_2 : w102.cell? ⟨gb772, 2, none⟩ = some (.string t770) := (blk_cell BK772.out 2).trans rfl; have hfz105_0 := blk_frozen BK772.out 0; have hfz105_1 := blk_frozen BK772.out 1; have hfz105_2 := blk_frozen BK772.out 2))
                   go_roundg k6
                   case measure => have := HJ6.out; have := HJ18.out; have := HK3.out; have := HJ26.out; have := HJ70.out; have := HK6.out; omega
                   case rel => exact ⟨(wrap64 (x26_6 + 1)), (by first | rfl | (simp; done) | (simp [*]; done)), H', ⟨by have := HJ6.out; have := HJ18.out; have := HK3.out; have := HJ26.out; have := HJ70.out; have := HK6.out; omega⟩, ⟨by (with_reducible repeat (first | apply Kd.R_alloc | apply Kd.R_drewN | apply Kd.R_drew)); exact Kd.R_mono (Kd.R_far (p := ⟨gb778, 2, none⟩) (Kd.R_far (p := ⟨gb778, 1, none⟩) (Kd.R_far (p := ⟨gb778, 0, none⟩) (Kd.R_mono HO_19.out (fun k_ hk => (⟨hk, hk.2⟩ : _ ∧ k_ ≠ gb778))) (fun _ hk => hk.2) (.string t774)) (fun _ hk => hk.2) (.int .i64 t775)) (fun _ hk => hk.2) (.string t776)) (fun _ hk => trivial)⟩, ⟨by (with_reducible repeat (first | apply Kd.R_alloc | apply Kd.R_drewN | apply Kd.R_drew)); exact Kd.R_mono (Kd.R_far (p := ⟨gb778, 2, none⟩) (Kd.R_far (p := ⟨gb778, 1, none⟩) (Kd.R_far (p := ⟨gb778, 0, none⟩) (Kd.R_types HO_22.out BK778.out (by decide)) (fun _ hk => hk.2) (.string t774)) (fun _ hk => hk.2) (.int .i64 t775)) (fun _ hk => hk.2) (.string t776)) (fun _ hk => trivial)⟩, ⟨by repeat (first | (with_reducible first | exact HB.out | apply below_alloc | apply pw_below_drewN | apply below_drew1 | refine below_set ?_ GE772.out | refine below_set ?_ GE778.out) | exact HB.out)⟩⟩
/-- THE ONE PURE STATEMENT of laws_FnPruning: yours. -/
def laws_FnPruning.Pure : Prop := ∀ (l0 : List Int), l0.length ≤ maxLen → l0.length * 1 ≤ 140737488351232 → (∀ x ∈ l0, (Lit.int .u8 x).wf = true) → ∃ k, laws_FnPruning.f k l0 = some true
theorem laws_FnPruning.walk (P : laws_FnPruning.Pure) (a0 : Option Addr) (len0 cap0 : Nat) (z0 : List Int) (w : World) (w0 : (a0 = none ∧ len0 = 0 ∧ cap0 = 0 ∧ z0 = []) ∨ ∃ x, a0 = some x ∧ len0 ≤ cap0 ∧ cap0 ≤ maxLen ∧ z0.length = cap0 ∧ (∀ i, i < z0.length → w.cell? (x.add i) = some (.int .u8 (z0.getD i 0))) ∧ ∀ n ∈ z0, (Lit.int .u8 n).wf = true) (y0 : len0 * 1 ≤ 140737488351232) :
  Calls Try.prog 10 #[.slice a0 len0 cap0] w fun e w' => e = .returned (.bool true) ∧ Below w.heap.size w w' := by
 obtain ⟨l0, rfl, hr0, hm0, hw0, hc0⟩ := ReadsInt.ofRowC w0
 obtain ⟨k, h⟩ := P l0 hm0 y0 hw0
 refine (laws_FnPruning.calls k _ _ l0 true w (Kd.C_of_reads (d := (0 : Int)) (h1 := fun _ => rfl) hr0) hc0 h rfl).mono ?_
 rintro e w' ⟨rfl, hd⟩
 exact ⟨rfl, hd⟩

end Go.Proofs.Ytgmmanppmjlclaa.P
