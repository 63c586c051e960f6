-- Made by pp.py of this session out of the kit's print and of contracts proved by hand; Lean checks it.
import Derived.Test.YtgmmanppmjlclaaGreatDoorMc
import Derived.Test.YtgmmanppmjlclaaGreatDoorPx0
import Derived.Test.YtgmmanppmjlclaaGreatDoorPx1
import Derived.Test.YtgmmanppmjlclaaGreatDoorPx3
import Derived.Test.YtgmmanppmjlclaaGreatDoorPx5
import Derived.Test.YtgmmanppmjlclaaGreatDoorPx9
import Derived.Test.YtgmmanppmjlclaaGreatDoorPx14
import Derived.Test.YtgmmanppmjlclaaGreatDoorPx16
import Derived.Test.YtgmmanppmjlclaaGreatDoorPx17
import Derived.Test.YtgmmanppmjlclaaGreatDoorPx19
import Derived.Test.YtgmmanppmjlclaaGreatDoorPx21
import Derived.Test.YtgmmanppmjlclaaGreatDoorPx23
import Derived.Test.YtgmmanppmjlclaaGreatDoorPx26
import Derived.Test.YtgmmanppmjlclaaGreatDoorPx28
import Derived.Test.YtgmmanppmjlclaaGreatDoorPx29
import Derived.Test.YtgmmanppmjlclaaGreatDoorPx30
import Derived.Test.YtgmmanppmjlclaaGreatDoorPx31
namespace Go.Proofs.YtgmmanppmjlclaaGreatDoor.P
open Go.RowKit Go.Proofs.YtgmmanppmjlclaaGreatDoorW.PrintWords Go.Proofs.YtgmmanppmjlclaaGreatDoorW.PrintLast Go.Proofs.YtgmmanppmjlclaaGreatDoorW.PrintMore
attribute [local go_sem] max2_int min2_int max_two min_two max_three min_three max_four min_four   -- for this text's walks alone
set_option linter.unusedVariables false
set_option linter.unusedSimpArgs false

attribute [local go_sem high] eqA26
/-! ### laws_FnProducts: function 3 -/
mutual
def laws_FnProducts.j0 : Nat → List Int → List (S26) → Bool → Bool → ByteArray → Int → ByteArray → Option (Bool)
 | 0, _, _, _, _, _, _, _ => none
 | k + 1, x0, x5, x6, x60, x458000, x458001, x458002 => if x60 = true then (some false) else (if x6 = true then ((impl_ValidProduct.f k x5 x458000 x458001).bind fun bt467 => ((impl_VersionsOf.f k x5 x458000).bind fun bt472 => ((impl_StoreProduct.f k x5 x458000 x458001 x458002).bind fun bt476 => (if bt467.2.2.2 = true then (if bt472.2 = true then (if bt476.2 = true then (if (!(bt467.1.toList == x458000.toList) || (!(bt467.2.1 == x458001) || (!(bt467.2.2.1.toList == x458002.toList)))) = true then (some false) else ((laws_rHas.f k bt472.1 x458001).bind fun t480 => (if t480 = true then ((laws_rArchives.f k bt476.1 x5).bind fun t481 => (if t481 = true then ((impl_IsValidArchive.f k x5).bind fun t482 => (if t482 = true then (laws_FnProducts.j1 k x0) else (some false))) else (some false))) else (some false)))) else (some false)) else (some false)) else (some false))))) else (laws_FnProducts.j1 k x0))
def laws_FnProducts.j1 : Nat → List Int → Option (Bool)
 | 0, _ => none
 | k + 1, x0 => (spec_DrawArchiveText.f k x0).bind fun t483 => ((impl_ArchiveText.f k t483).bind fun bt486 => ((spec_ArchiveText.f k t483).bind fun bt488 => (if bt486.1.toList = bt488.1.toList then (laws_FnProducts.j2 k x0 t483 bt486.1 bt486.2 (bt486.2 != bt488.2)) else (laws_FnProducts.j2 k x0 t483 bt486.1 bt486.2 true))))
def laws_FnProducts.j2 : Nat → List Int → List (S26) → ByteArray → Bool → Bool → Option (Bool)
 | 0, _, _, _, _, _ => none
 | k + 1, x0, x15, x16, x17, x136 => if x136 = true then (some false) else ((impl_ParseArchive.f k x16).bind fun bt490 => (if x17 = true then (if bt490.2 = true then ((laws_rArchives.f k bt490.1 x15).bind fun t494 => (laws_FnProducts.j3 k x0 (!t494))) else (laws_FnProducts.j3 k x0 true)) else (laws_FnProducts.j3 k x0 false)))
def laws_FnProducts.j3 : Nat → List Int → Bool → Option (Bool)
 | 0, _, _ => none
 | k + 1, x0, x152 => if x152 = true then (some false) else ((spec_DrawParseArchive.f k x0).bind fun t495 => ((impl_ParseArchive.f k t495).bind fun bt496 => ((spec_ParseArchive.f k t495).bind fun bt500 => (if (bt496.2 != bt500.2) = true then (laws_FnProducts.j4 k x0 true) else ((laws_rArchives.f k bt496.1 bt500.1).bind fun t504 => (laws_FnProducts.j4 k x0 (!t504)))))))
def laws_FnProducts.j4 : Nat → List Int → Bool → Option (Bool)
 | 0, _, _ => none
 | k + 1, x0, x173 => if x173 = true then (some false) else ((spec_DrawVersionsOf.f k x0).bind fun bt505 => ((impl_VersionsOf.f k bt505.1 bt505.2).bind fun bt509 => ((spec_VersionsOf.f k bt505.1 bt505.2).bind fun bt513 => (if (bt509.2 == bt513.2) = true then ((laws_rInts.f k bt509.1 bt513.1).bind fun t517 => (some t517)) else (some false)))))
end
def laws_FnProducts.f (k : Nat) (l0 : List Int) : Option (Bool) := (laws_rBig.f l0).bind fun t450 => (if t450 = true then (some true) else ((spec_DrawStoreProduct.f k l0).bind fun bt451 => ((impl_StoreProduct.f k bt451.1 bt451.2.1 bt451.2.2.1 bt451.2.2.2).bind fun bt458 => ((spec_StoreProduct.f k bt451.1 bt451.2.1 bt451.2.2.1 bt451.2.2.2).bind fun bt462 => (if (bt458.2 != bt462.2) = true then (laws_FnProducts.j0 k l0 bt458.1 bt458.2 true bt451.2.1 bt451.2.2.1 bt451.2.2.2) else ((laws_rArchives.f k bt458.1 bt462.1).bind fun t466 => (laws_FnProducts.j0 k l0 bt458.1 bt458.2 (!t466) bt451.2.1 bt451.2.2.1 bt451.2.2.2)))))))
set_option maxHeartbeats 8000000 in
set_option maxRecDepth 100000 in
theorem laws_FnProducts.calls (k : Nat) (A0 : Option Addr) (c0 : Nat) (l0 : List Int) (r : Bool) (w : World) (hr0 : Kd.C (Kd.int .u8) w A0 l0.length l0) (hc0 : l0.length ≤ c0) (h : laws_FnProducts.f k l0 = some r) (hrt_ : r = true) (hG_ : GW w) :
  Calls Tryz.prog 3 #[.slice A0 l0.length c0] w fun e w' => e = .returned (.bool r) ∧ Below w.heap.size w w' := by
 have HG := A_ hG_
 clear hG_
 have hu26 := Tryz.underlying26
 have HR0 := A_ hr0
 have HC0 := A_ hc0
 clear hr0 hc0
 have HB := A_ (Below.refl w.heap.size w)
 have H : ((laws_rBig.f l0).bind fun t450 => (if t450 = true then (some true) else ((spec_DrawStoreProduct.f k l0).bind fun bt451 => ((impl_StoreProduct.f k bt451.1 bt451.2.1 bt451.2.2.1 bt451.2.2.2).bind fun bt458 => ((spec_StoreProduct.f k bt451.1 bt451.2.1 bt451.2.2.1 bt451.2.2.2).bind fun bt462 => (if (bt458.2 != bt462.2) = true then (laws_FnProducts.j0 k l0 bt458.1 bt458.2 true bt451.2.1 bt451.2.2.1 bt451.2.2.2) else ((laws_rArchives.f k bt458.1 bt462.1).bind fun t466 => (laws_FnProducts.j0 k l0 bt458.1 bt458.2 (!t466) bt451.2.1 bt451.2.2.1 bt451.2.2.2)))))))) = some r := h
 clear h
 obtain ⟨t450, A20, H⟩ := oB_ H
 have A2 := A_ A20
 clear A20
 by_cases c3 : t450 = true
 ·
  subst c3
  rw [if_pos rfl] at H
  obtain rfl := Option.some.inj H
  go_enter Tryz.func3, Tryz.ntmps3
  go_wp2_with (first | ((with_reducible refine gc_ 4 rfl ?_); refine goesL_ (some 34) rfl rfl Tryz.func4 kr_ rfl #[.slice A0 l0.length c0] rfl mc47 ?_; (with_reducible refine (laws_rBig.calls _ _ l0 true _ ?side1 ?side2 A2.out).mono ?_); (case side1 => exact mc43); (case side2 => exact HC0.out); rintro e w' ⟨rfl, ⟨nd, rfl⟩⟩; refine ⟨_, rfl, ?_⟩))
  go_ret
  exact ⟨mc76, mc53⟩
 ·
  replace c3 := Bool.eq_false_iff.mpr c3
  subst c3
  rw [if_neg (show ¬ (false = true) by decide)] at H
  obtain ⟨⟨t451, t454, t455, t456⟩, A40, H⟩ := oB_ H
  have A4 := A_ A40
  clear A40
  obtain ⟨⟨t458, t461⟩, A50, H⟩ := oB_ H
  have A5 := A_ A50
  clear A50
  obtain ⟨⟨t462, t465⟩, A60, H⟩ := oB_ H
  have A6 := A_ A60
  clear A60
  have HC7 := A_ H
  clear H
  go_enter Tryz.func3, Tryz.ntmps3
  go_upto_region 6 with (first | ((with_reducible refine gc_ 4 rfl ?_); refine goesL_ (some 34) rfl rfl Tryz.func4 kr_ rfl #[.slice A0 l0.length c0] rfl mc47 ?_; (with_reducible refine (laws_rBig.calls _ _ l0 false _ ?side1 ?side2 A2.out).mono ?_); (case side1 => exact mc43); (case side2 => exact HC0.out); rintro e w' ⟨rfl, ⟨nd, rfl⟩⟩; refine ⟨_, rfl, ?_⟩) | ((with_reducible refine gc_ 5 rfl ?_); refine goesL_ (some 37) rfl rfl Tryz.func5 kr_ rfl #[.slice A0 l0.length c0] rfl mc47 ?_; (with_reducible refine (spec_DrawStoreProduct.calls k _ _ l0 t451 t454 t455 t456 _ ?side1 ?side2 A4.out).mono ?_); (case side1 => exact mc43); (case side2 => exact HC0.out); rintro e w8 ⟨v452, rfl, ho0, hb⟩; refine ⟨_, rfl, ?_⟩; have HO453 := A_ (Kd.R_lower ho0 (below_size mc53)); replace HB := A_ (below_step mc53 hb); (try clear hb); (try clear ho0)) | ((with_reducible refine gd_ 4 rfl ?_); refine box_event rfl (N := 4) rfl (cs := #[.string (⟨#[]⟩ : ByteArray), .int .i64 0, .string (⟨#[]⟩ : ByteArray)]) (t := 26) mc83 ?_; intro gb457 hg w9 hbox hb; replace HO453 := A_ (Kd.R_below (Kd.R_elderB mc69 gb457 (Nat.le_of_eq hg.symm)) hb); have BK457 := A_ (hbox); have GW457 := A_ ((mc34 : w.heap.size ≤ gb457)); have GE457 := A_ ((mc34 : w.heap.size ≤ gb457)); replace HB := A_ (below_step mc53 hb); clear hb hbox hg; have hcz10_0 : w9.cell? ⟨gb457, 0, none⟩ = some (.string (⟨#[]⟩ : ByteArray)) := bc_ BK457 0 rfl; have hcz10_1 : w9.cell? ⟨gb457, 1, none⟩ = some (.int .i64 0) := bc_ BK457 1 rfl; have hcz10_2 : w9.cell? ⟨gb457, 2, none⟩ = some (.string (⟨#[]⟩ : ByteArray)) := bc_ BK457 2 rfl; have hfz10_0 := blk_frozen BK457.out 0; have hfz10_1 := blk_frozen BK457.out 1; have hfz10_2 := blk_frozen BK457.out 2; obtain ⟨Ao11, co11, eo11⟩ := Kd.R_slice HO453.out; subst eo11) | ((with_reducible refine gc_ 6 rfl ?_); refine goesL_ (some 43) rfl rfl Tryz.func6 kr_ rfl #[.slice Ao11 t451.length co11, .agg #[.string t454, .int .i64 t455, .string t456]] rfl mc47 ?_; (with_reducible refine (impl_StoreProduct.calls k _ _ t451 t454 t455 t456 t458 t461 _ ?side1 ?side2 A5.out).mono ?_); (case side1 => refine (Kd.R_reads' (e := 26) (base := w.heap.size) (ok := fun k_ => (True ∧ k_ ≠ gb457)) (n := t451.length) (c := co11) ?_).2.2; exact mc5); (case side2 => exact (Kd.R_reads' HO453.out).2.1); rintro e w12 ⟨v459, rfl, ho0, hb⟩; refine ⟨_, rfl, ?_⟩; have HO460 := A_ (Kd.R_lower (Kd.R_newB (Kd.R_new' ho0 (Kd.R_lt mc5)) (g := gb457) (o := .cells #[.string t454, .int .i64 t455, .string t456] 26 (0, 0)) mc3) (below_size mc41)); replace HO453 := A_ (Kd.R_elder' mc5 (Kd.R_base ho0) hb); replace BK457 := A_ (blk_below (g := gb457) (o := .cells #[.string t454, .int .i64 t455, .string t456] 26 (0, 0)) mc3 hb); replace HB := A_ (below_step mc41 hb); (try clear hb); (try clear ho0); have hcz13_0 : w12.cell? ⟨gb457, 0, none⟩ = some (.string t454) := bc_ BK457 0 rfl; have hcz13_1 : w12.cell? ⟨gb457, 1, none⟩ = some (.int .i64 t455) := bc_ BK457 1 rfl; have hcz13_2 : w12.cell? ⟨gb457, 2, none⟩ = some (.string t456) := bc_ BK457 2 rfl; have hfz13_0 := blk_frozen BK457.out 0; have hfz13_1 := blk_frozen BK457.out 1; have hfz13_2 := blk_frozen BK457.out 2) | ((with_reducible refine gc_ 7 rfl ?_); refine goesL_ (some 49) rfl rfl Tryz.func7 kr_ rfl #[.slice Ao11 t451.length co11, .agg #[.string t454, .int .i64 t455, .string t456]] rfl mc47 ?_; (with_reducible refine (spec_StoreProduct.calls k _ _ t451 t454 t455 t456 t462 t465 _ ?side1 ?side2 A6.out).mono ?_); (case side1 => repeat (first | exact (Kd.R_reads' HO453.out).2.2 | (with_reducible refine Kd.C_alloc ?_ _) | (with_reducible refine Kd.C_drewN ?_ _) | (with_reducible refine Kd.C_drew ?_))); (case side2 => exact (Kd.R_reads' HO453.out).2.1); rintro e w14 ⟨v463, rfl, ho0, hb⟩; refine ⟨_, rfl, ?_⟩; have HO464 := A_ (Kd.R_lower (Kd.R_newB (Kd.R_new' (Kd.R_new' ho0 (Kd.R_lt mc69)) (Kd.R_lt (by (with_reducible repeat (first | apply Kd.R_alloc | apply Kd.R_drewN | apply Kd.R_drew)); exact HO460.out))) (g := gb457) (o := .cells #[.string t454, .int .i64 t455, .string t456] 26 (0, 0)) BK457.out) (below_size mc41)); replace HO453 := A_ (Kd.R_elder' mc69 (Kd.R_base ho0) hb); replace HO460 := A_ (Kd.R_elder' (by (with_reducible repeat (first | apply Kd.R_alloc | apply Kd.R_drewN | apply Kd.R_drew)); exact HO460.out) (Kd.R_base ho0) hb); replace BK457 := bk_ BK457 hb; replace HB := A_ (below_step mc41 hb); (try clear hb); (try clear ho0)))
  (try simp only [Act.put, List.setIfInBounds_toArray, List.set_cons_zero, List.set_cons_succ])
  go_cut [60] (fun v60 wc => ∃ (kq : Nat) (x60_6 : Bool), v60 = .bool x60_6 ∧ Aside0 (laws_FnProducts.j0 kq l0 t458 t461 x60_6 t454 t455 t456 = some r) ∧ Aside0 (kq ≤ k) ∧ Aside0 (Kd.R k26 26 wc w.heap.size (fun k_ => k_ ≠ gb457) v459 t458) ∧ Aside0 (wc.heap[gb457]? = some (.cells #[.string t454, .int .i64 t455, .string t456] 26 (0, 0))) ∧ Aside0 (Below w.heap.size w wc))
  case first =>
   as_aux_lemma =>
    have H := HC7.out
    clear HC7
    by_cases c15 : (t461 != t465) = true
    ·
     rw [if_pos c15] at H
     have c15b0 : (t461 != t465) = true := c15
     (try (have c15b1 : decide (t461 = t465) = false := by simpa using c15))
     (try (have c15b2 : (t461 == t465) = false := by simpa using c15))
     (try (have c15b3 : ¬ (t461 = t465) := by simpa using c15))
     clear c15
     (first | rw [c15b0] | (simp only [i64_w, i32_w]; rw [c15b0]) | skip)
     have H' := A_ H
     clear H
     go_wp2
     go_meet
     case rel => exact ⟨_, (true), mc82, H', ⟨mc85⟩, ⟨by (with_reducible repeat (first | apply Kd.R_alloc | apply Kd.R_drewN | apply Kd.R_drew)); exact Kd.R_mono HO460.out (fun _ hk => hk.1.2)⟩, ⟨mc62⟩, ⟨mc41⟩⟩
    ·
     rw [if_neg c15] at H
     have c15b0 : (t461 != t465) = false := by simpa using c15
     (try (have c15b1 : decide (t461 = t465) = true := by simpa using c15))
     (try (have c15b2 : (t461 == t465) = true := by simpa using c15))
     clear c15
     (first | rw [c15b0] | (simp only [i64_w, i32_w]; rw [c15b0]) | skip)
     obtain ⟨t466, A160, H⟩ := oB_ H
     have A16 := A_ A160
     clear A160
     have H' := A_ H
     clear H
     obtain ⟨Ao17, co17, eo17⟩ := Kd.R_slice HO460.out
     subst eo17
     obtain ⟨Ao18, co18, eo18⟩ := Kd.R_slice HO464.out
     subst eo18
     go_wp2_with (first | (go_at_call 8; (with_reducible refine (laws_rArchives.calls k _ _ t458 _ _ t462 t466 _ ?side1 ?side2 ?side3 ?side4 A16.out).mono ?_); (case side1 => repeat (first | exact (Kd.R_reads' HO460.out).2.2 | (with_reducible refine Kd.C_alloc ?_ _) | (with_reducible refine Kd.C_drewN ?_ _) | (with_reducible refine Kd.C_drew ?_))); (case side2 => exact (Kd.R_reads' HO460.out).2.1); (case side3 => repeat (first | exact (Kd.R_reads' HO464.out).2.2 | (with_reducible refine Kd.C_alloc ?_ _) | (with_reducible refine Kd.C_drewN ?_ _) | (with_reducible refine Kd.C_drew ?_))); (case side4 => exact (Kd.R_reads' HO464.out).2.1); rintro e w' ⟨rfl, ⟨nd, rfl⟩⟩))
     go_meet
     case rel => exact ⟨_, (!t466), mc82, H', ⟨mc85⟩, ⟨by (with_reducible repeat (first | apply Kd.R_alloc | apply Kd.R_drewN | apply Kd.R_drew)); exact Kd.R_mono HO460.out (fun _ hk => hk.1.2)⟩, ⟨mc62⟩, ⟨mc41⟩⟩
  case rest =>
   as_aux_lemma =>
    clear HC7
    try clear p2
    try clear c15b0
    try clear c15b1
    try clear c15b2
    obtain ⟨kq, x60_6, rfl, HA, HJ6, HO_5, BK457, HB⟩ := hcut
    cases kq with
    | zero => exact absurd HA.out (by simp [laws_FnProducts.j0])
    | succ kj6 =>
     have H := HA.out
     clear HA
     simp only [laws_FnProducts.j0] at H
     by_cases c19 : x60_6 = true
     ·
      subst c19
      have H1 : (some false) = some r := by rw [if_pos rfl] at H; exact H
      exact absurd ((Option.some.inj H1).trans hrt_) (by decide)
     ·
      replace c19 := Bool.eq_false_iff.mpr c19
      subst c19
      rw [if_neg (show ¬ (false = true) by decide)] at H
      have HC20 := A_ H
      clear H
      go_upto_if 61 with (fail)
      go_cut [] (fun wc => ∃ (kq : Nat), Aside0 (laws_FnProducts.j1 kq l0 = some r) ∧ Aside0 (kq ≤ kj6) ∧ Aside0 (wc.heap[gb457]? = some (.cells #[.string t454, .int .i64 t455, .string t456] 26 (0, 0))) ∧ Aside0 (Below w.heap.size w wc))
      case first =>
       as_aux_lemma =>
        have H := HC20.out
        clear HC20
        by_cases c21 : t461 = true
        ·
         subst c21
         rw [if_pos rfl] at H
         obtain ⟨⟨t467, t468, t469, t470⟩, A220, H⟩ := oB_ H
         have A22 := A_ A220
         clear A220
         obtain ⟨⟨t472, t473⟩, A230, H⟩ := oB_ H
         have A23 := A_ A230
         clear A230
         obtain ⟨⟨t476, t479⟩, A240, H⟩ := oB_ H
         have A24 := A_ A240
         clear A240
         by_cases c25 : t470 = true
         ·
          subst c25
          rw [if_pos rfl] at H
          by_cases c26 : t473 = true
          ·
           subst c26
           rw [if_pos rfl] at H
           by_cases c27 : t479 = true
           ·
            subst c27
            rw [if_pos rfl] at H
            by_cases c28 : (!(t467.toList == t454.toList) || (!(t468 == t455) || (!(t469.toList == t456.toList)))) = true
            ·
             rw [if_pos c28] at H
             have c28b0 : (!(t467.toList == t454.toList) || (!(t468 == t455) || (!(t469.toList == t456.toList)))) = true := c28
             clear c28
             (first | rw [c28b0] | (simp only [i64_w, i32_w]; rw [c28b0]) | skip)
             exact absurd ((Option.some.inj H).trans hrt_) (by decide)
            ·
             rw [if_neg c28] at H
             have c28b0 : (!(t467.toList == t454.toList) || (!(t468 == t455) || (!(t469.toList == t456.toList)))) = false := by simpa using c28
             clear c28
             (first | rw [c28b0] | (simp only [i64_w, i32_w]; rw [c28b0]) | skip)
             obtain ⟨t480, A410, H⟩ := oB_ H
             have A41 := A_ A410
             clear A410
             by_cases c42 : t480 = true
             ·
              subst c42
              rw [if_pos rfl] at H
              obtain ⟨t481, A430, H⟩ := oB_ H
              have A43 := A_ A430
              clear A430
              by_cases c44 : t481 = true
              ·
               subst c44
               rw [if_pos rfl] at H
               obtain ⟨t482, A450, H⟩ := oB_ H
               have A45 := A_ A450
               clear A450
               by_cases c46 : t482 = true
               ·
                subst c46
                rw [if_pos rfl] at H
                have H' := A_ H
                clear H
                have hcz47_0 : wc.cell? ⟨gb457, 0, none⟩ = some (.string t454) := bc_ BK457 0 rfl
                have hcz47_1 : wc.cell? ⟨gb457, 1, none⟩ = some (.int .i64 t455) := bc_ BK457 1 rfl
                have hcz47_2 : wc.cell? ⟨gb457, 2, none⟩ = some (.string t456) := bc_ BK457 2 rfl
                have hfz47_0 := blk_frozen BK457.out 0
                have hfz47_1 := blk_frozen BK457.out 1
                have hfz47_2 := blk_frozen BK457.out 2
                obtain ⟨Ao48, co48, eo48⟩ := Kd.R_slice HO_5.out
                subst eo48
                go_wp2_with (first | ((with_reducible refine gc_ 9 rfl ?_); refine goesL_ (some 68) rfl rfl Tryz.func9 kr_ rfl #[.slice Ao48 t458.length co48, .string t454, .int .i64 t455] rfl mc47 ?_; (with_reducible refine (impl_ValidProduct.calls kj6 _ _ t458 t454 t455 t467 t468 t469 true _ ?side1 ?side2 A22.out).mono ?_); (case side1 => exact mc32); (case side2 => exact (Kd.R_reads' HO_5.out).2.1); rintro e w49 ⟨rfl, hb⟩; refine ⟨_, rfl, ?_⟩; replace HO_5 := A_ (Kd.R_below mc73 hb); replace BK457 := bk_ BK457 hb; replace HB := A_ (below_step mc41 hb); (try clear hb)) | ((with_reducible refine gd_ 9 rfl ?_); refine box_event rfl (N := 9) rfl (cs := #[.string (⟨#[]⟩ : ByteArray), .int .i64 0, .string (⟨#[]⟩ : ByteArray)]) (t := 26) mc83 ?_; intro gb471 hg w50 hbox hb; replace HO_5 := A_ (Kd.R_below (Kd.R_elderB mc73 gb471 (Nat.le_of_eq hg.symm)) hb); have BK471 := A_ (hbox); have GW471 := A_ ((mc21 : w.heap.size ≤ gb471)); have GE471 := A_ ((mc21 : w.heap.size ≤ gb471)); replace HB := A_ (below_step mc41 hb); have NB457_471 := A_ ((by rw [hg]; exact Nat.ne_of_lt (blk_lt BK457.out) : gb457 ≠ gb471)); have NB471_457 := A_ ((by rw [hg]; exact Nat.ne_of_gt (blk_lt BK457.out) : gb471 ≠ gb457)); replace BK457 := bk_ BK457 hb; clear hb hbox hg; have hnb51 := NB471_457.out; have hnc51 := NB457_471.out; have hcz52_0 : w50.cell? ⟨gb471, 0, none⟩ = some (.string (⟨#[]⟩ : ByteArray)) := bc_ BK471 0 rfl; have hcz52_1 : w50.cell? ⟨gb471, 1, none⟩ = some (.int .i64 0) := bc_ BK471 1 rfl; have hcz52_2 : w50.cell? ⟨gb471, 2, none⟩ = some (.string (⟨#[]⟩ : ByteArray)) := bc_ BK471 2 rfl; have hfz52_0 := blk_frozen BK471.out 0; have hfz52_1 := blk_frozen BK471.out 1; have hfz52_2 := blk_frozen BK471.out 2; have hcz53_0 : w50.cell? ⟨gb457, 0, none⟩ = some (.string t454) := bc_ BK457 0 rfl; have hcz53_1 : w50.cell? ⟨gb457, 1, none⟩ = some (.int .i64 t455) := bc_ BK457 1 rfl; have hcz53_2 : w50.cell? ⟨gb457, 2, none⟩ = some (.string t456) := bc_ BK457 2 rfl; have hfz53_0 := blk_frozen BK457.out 0; have hfz53_1 := blk_frozen BK457.out 1; have hfz53_2 := blk_frozen BK457.out 2) | ((with_reducible refine gc_ 10 rfl ?_); refine goesL_ (some 75) rfl rfl Tryz.func10 kr_ rfl #[.slice Ao48 t458.length co48, .string t454] rfl mc47 ?_; (with_reducible refine (impl_VersionsOf.calls kj6 _ _ t458 t454 t472 true _ ?side1 ?side2 A23.out).mono ?_); (case side1 => refine (Kd.R_reads' (e := 26) (base := w.heap.size) (ok := fun k_ => (k_ ≠ gb457 ∧ k_ ≠ gb471)) (n := t458.length) (c := co48) ?_).2.2; exact mc6); (case side2 => exact (Kd.R_reads' HO_5.out).2.1); rintro e w54 ⟨v474, rfl, ho0, hb⟩; refine ⟨_, rfl, ?_⟩; replace HO_5 := A_ (Kd.R_below mc6 hb); have HO475 := A_ (Kd.R_lower ho0 (below_size mc23)); replace BK457 := A_ (blk_below (g := gb457) (o := .cells #[.string t454, .int .i64 t455, .string t456] 26 (0, 0)) (by (with_reducible repeat (first | refine blk_drewN ?_ _ | refine blk_drew ?_ | refine blk_alloc ?_ _)); refine blk_far ?_ NB457_471.out _; (with_reducible repeat (first | refine blk_drewN ?_ _ | refine blk_drew ?_ | refine blk_alloc ?_ _)); refine blk_far ?_ NB457_471.out _; (with_reducible repeat (first | refine blk_drewN ?_ _ | refine blk_drew ?_ | refine blk_alloc ?_ _)); refine blk_far ?_ NB457_471.out _; (with_reducible repeat (first | refine blk_drewN ?_ _ | refine blk_drew ?_ | refine blk_alloc ?_ _)); exact BK457.out) hb); replace BK471 := A_ (blk_below (g := gb471) (o := .cells #[.string t467, .int .i64 t468, .string t469] 26 (0, 0)) (by (with_reducible repeat (first | refine blk_drewN ?_ _ | refine blk_drew ?_ | refine blk_alloc ?_ _)); refine blk_put (cs := #[.string t467, .int .i64 t468, .string (⟨#[]⟩ : ByteArray)]) ?_ 2 _ rfl; (with_reducible repeat (first | refine blk_drewN ?_ _ | refine blk_drew ?_ | refine blk_alloc ?_ _)); refine blk_put (cs := #[.string t467, .int .i64 0, .string (⟨#[]⟩ : ByteArray)]) ?_ 1 _ rfl; (with_reducible repeat (first | refine blk_drewN ?_ _ | refine blk_drew ?_ | refine blk_alloc ?_ _)); refine blk_put (cs := #[.string (⟨#[]⟩ : ByteArray), .int .i64 0, .string (⟨#[]⟩ : ByteArray)]) ?_ 0 _ rfl; (with_reducible repeat (first | refine blk_drewN ?_ _ | refine blk_drew ?_ | refine blk_alloc ?_ _)); exact BK471.out) hb); replace HB := A_ (below_step mc23 hb); (try clear hb); (try clear ho0); have hcz55_0 : w54.cell? ⟨gb457, 0, none⟩ = some (.string t454) := bc_ BK457 0 rfl; have hcz55_1 : w54.cell? ⟨gb457, 1, none⟩ = some (.int .i64 t455) := bc_ BK457 1 rfl; have hcz55_2 : w54.cell? ⟨gb457, 2, none⟩ = some (.string t456) := bc_ BK457 2 rfl; have hfz55_0 := blk_frozen BK457.out 0; have hfz55_1 := blk_frozen BK457.out 1; have hfz55_2 := blk_frozen BK457.out 2) | ((with_reducible refine gc_ 6 rfl ?_); refine goesL_ (some 81) rfl rfl Tryz.func6 kr_ rfl #[.slice Ao48 t458.length co48, .agg #[.string t454, .int .i64 t455, .string t456]] rfl mc47 ?_; (with_reducible refine (impl_StoreProduct.calls kj6 _ _ t458 t454 t455 t456 t476 true _ ?side1 ?side2 A24.out).mono ?_); (case side1 => exact mc32); (case side2 => exact (Kd.R_reads' HO_5.out).2.1); rintro e w56 ⟨v477, rfl, ho0, hb⟩; refine ⟨_, rfl, ?_⟩; replace HO475 := A_ (Kd.R_below (by (with_reducible repeat (first | apply Kd.R_alloc | apply Kd.R_drewN | apply Kd.R_drew)); exact HO475.out) hb); have HO478 := A_ (Kd.R_lower (Kd.R_newB (Kd.R_newB (Kd.R_new' ho0 (Kd.R_lt mc73)) (g := gb457) (o := .cells #[.string t454, .int .i64 t455, .string t456] 26 (0, 0)) BK457.out) (g := gb471) (o := .cells #[.string t467, .int .i64 t468, .string t469] 26 (0, 0)) BK471.out) (below_size mc23)); replace HO_5 := A_ (Kd.R_elder' mc73 (Kd.R_base ho0) hb); replace BK457 := bk_ BK457 hb; replace BK471 := bk_ BK471 hb; replace HB := A_ (below_step mc23 hb); (try clear hb); (try clear ho0); have hcz57_0 : w56.cell? ⟨gb471, 0, none⟩ = some (.string t467) := bc_ BK471 0 rfl; have hcz57_1 : w56.cell? ⟨gb471, 1, none⟩ = some (.int .i64 t468) := bc_ BK471 1 rfl; have hcz57_2 : w56.cell? ⟨gb471, 2, none⟩ = some (.string t469) := bc_ BK471 2 rfl; have hfz57_0 := blk_frozen BK471.out 0; have hfz57_1 := blk_frozen BK471.out 1; have hfz57_2 := blk_frozen BK471.out 2; have hcz58_0 : w56.cell? ⟨gb457, 0, none⟩ = some (.string t454) := bc_ BK457 0 rfl; have hcz58_1 : w56.cell? ⟨gb457, 1, none⟩ = some (.int .i64 t455) := bc_ BK457 1 rfl; have hcz58_2 : w56.cell? ⟨gb457, 2, none⟩ = some (.string t456) := bc_ BK457 2 rfl; have hfz58_0 := blk_frozen BK457.out 0; have hfz58_1 := blk_frozen BK457.out 1; have hfz58_2 := blk_frozen BK457.out 2; obtain ⟨Ao59, co59, eo59⟩ := Kd.R_slice HO475.out; subst eo59) | (go_at_call 11; (with_reducible refine (laws_rHas.calls kj6 _ _ t472 t455 true _ ?side1 ?side2 A41.out).mono ?_); (case side1 => repeat (first | exact (Kd.R_reads' HO475.out).2.2 | (with_reducible refine Kd.C_alloc ?_ _) | (with_reducible refine Kd.C_drewN ?_ _) | (with_reducible refine Kd.C_drew ?_))); (case side2 => exact (Kd.R_reads' HO475.out).2.1); rintro e w' ⟨rfl, ⟨nd, rfl⟩⟩; obtain ⟨Ao60, co60, eo60⟩ := Kd.R_slice HO478.out; subst eo60) | (go_at_call 8; (with_reducible refine (laws_rArchives.calls kj6 _ _ t476 _ _ t458 true _ ?side1 ?side2 ?side3 ?side4 A43.out).mono ?_); (case side1 => repeat (first | exact (Kd.R_reads' HO478.out).2.2 | (with_reducible refine Kd.C_alloc ?_ _) | (with_reducible refine Kd.C_drewN ?_ _) | (with_reducible refine Kd.C_drew ?_))); (case side2 => exact (Kd.R_reads' HO478.out).2.1); (case side3 => exact mc32); (case side4 => exact (Kd.R_reads' HO_5.out).2.1); rintro e w' ⟨rfl, ⟨nd, rfl⟩⟩) | (go_at_call 12; (with_reducible refine (impl_IsValidArchive.calls kj6 _ _ t458 true _ ?side1 ?side2 A45.out).mono ?_); (case side1 => exact mc32); (case side2 => exact (Kd.R_reads' HO_5.out).2.1); rintro e w61 ⟨rfl, hb⟩; replace HO_5 := A_ (Kd.R_below mc73 hb); replace HO475 := A_ (Kd.R_below (by (with_reducible repeat (first | apply Kd.R_alloc | apply Kd.R_drewN | apply Kd.R_drew)); exact HO475.out) hb); replace HO478 := A_ (Kd.R_below (by (with_reducible repeat (first | apply Kd.R_alloc | apply Kd.R_drewN | apply Kd.R_drew)); exact HO478.out) hb); replace BK457 := A_ (blk_below (by (with_reducible repeat (first | refine blk_drewN ?_ _ | refine blk_drew ?_ | refine blk_alloc ?_ _)); exact BK457.out) hb); replace BK471 := A_ (blk_below (by (with_reducible repeat (first | refine blk_drewN ?_ _ | refine blk_drew ?_ | refine blk_alloc ?_ _)); exact BK471.out) hb); replace HB := A_ (below_step mc23 hb); (try clear hb)))
                go_meet
                case rel => exact ⟨_, H', ⟨by have := HJ6.out; first | omega | exact Nat.le_refl _⟩, ⟨mc62⟩, ⟨by repeat (first | (with_reducible first | exact HB.out | apply below_alloc | apply pw_below_drewN | apply below_drew1 | refine below_set ?_ GE457.out | refine below_set ?_ GE471.out) | exact HB.out)⟩⟩
               ·
                replace c46 := Bool.eq_false_iff.mpr c46
                subst c46
                have H1 : (some false) = some r := by rw [if_neg (show ¬ (false = true) by decide)] at H; exact H
                exact absurd ((Option.some.inj H1).trans hrt_) (by decide)
              ·
               replace c44 := Bool.eq_false_iff.mpr c44
               subst c44
               have H1 : (some false) = some r := by rw [if_neg (show ¬ (false = true) by decide)] at H; exact H
               exact absurd ((Option.some.inj H1).trans hrt_) (by decide)
             ·
              replace c42 := Bool.eq_false_iff.mpr c42
              subst c42
              have H1 : (some false) = some r := by rw [if_neg (show ¬ (false = true) by decide)] at H; exact H
              exact absurd ((Option.some.inj H1).trans hrt_) (by decide)
           ·
            replace c27 := Bool.eq_false_iff.mpr c27
            subst c27
            have H1 : (some false) = some r := by rw [if_neg (show ¬ (false = true) by decide)] at H; exact H
            exact absurd ((Option.some.inj H1).trans hrt_) (by decide)
          ·
           replace c26 := Bool.eq_false_iff.mpr c26
           subst c26
           have H1 : (some false) = some r := by rw [if_neg (show ¬ (false = true) by decide)] at H; exact H
           exact absurd ((Option.some.inj H1).trans hrt_) (by decide)
         ·
          replace c25 := Bool.eq_false_iff.mpr c25
          subst c25
          have H1 : (some false) = some r := by rw [if_neg (show ¬ (false = true) by decide)] at H; exact H
          exact absurd ((Option.some.inj H1).trans hrt_) (by decide)
        ·
         replace c21 := Bool.eq_false_iff.mpr c21
         subst c21
         rw [if_neg (show ¬ (false = true) by decide)] at H
         have H' := A_ H
         clear H
         go_wp2
         go_meet
         case rel => exact ⟨_, H', ⟨by have := HJ6.out; first | omega | exact Nat.le_refl _⟩, ⟨mc62⟩, ⟨mc41⟩⟩
      case rest =>
       as_aux_lemma =>
        clear HC20
        try clear p2
        try clear c15b0
        try clear c15b1
        try clear c15b2
        try clear c28b0
        try clear p2
        obtain ⟨kq, HA, HJ19, BK457, HB⟩ := hcut
        cases kq with
        | zero => exact absurd HA.out (by simp [laws_FnProducts.j1])
        | succ kj19 =>
         have H := HA.out
         clear HA
         simp only [laws_FnProducts.j1] at H
         obtain ⟨t483, A1340, H⟩ := oB_ H
         have A134 := A_ A1340
         clear A1340
         obtain ⟨⟨t486, t487⟩, A1350, H⟩ := oB_ H
         have A135 := A_ A1350
         clear A1350
         obtain ⟨⟨t488, t489⟩, A1360, H⟩ := oB_ H
         have A136 := A_ A1360
         clear A1360
         have HC137 := A_ H
         clear H
         go_upto_region 17 with (first | ((with_reducible refine gc_ 13 rfl ?_); refine goesL_ (some 118) rfl rfl Tryz.func13 kr_ rfl #[.slice A0 l0.length c0] rfl mc47 ?_; (with_reducible refine (spec_DrawArchiveText.calls kj19 _ _ l0 t483 _ ?side1 ?side2 A134.out).mono ?_); (case side1 => exact mc31); (case side2 => exact HC0.out); rintro e w138 ⟨v484, rfl, ho0, hb⟩; refine ⟨_, rfl, ?_⟩; have HO485 := A_ (Kd.R_lower (Kd.R_newB ho0 (g := gb457) (o := .cells #[.string t454, .int .i64 t455, .string t456] 26 (0, 0)) BK457.out) (below_size mc41)); replace BK457 := bk_ BK457 hb; replace HB := A_ (below_step mc41 hb); (try clear hb); (try clear ho0); obtain ⟨Ao139, co139, eo139⟩ := Kd.R_slice HO485.out; subst eo139) | ((with_reducible refine gc_ 14 rfl ?_); refine goesL_ (some 121) rfl rfl Tryz.func14 kr_ rfl #[.slice Ao139 t483.length co139] rfl mc47 ?_; (with_reducible refine (impl_ArchiveText.calls kj19 _ _ t483 t486 t487 _ ?side1 ?side2 A135.out ?sideG).mono ?_); (case sideG => exact (gw_below HG.out mc41)); (case side1 => repeat (first | exact (Kd.R_reads' HO485.out).2.2 | (with_reducible refine Kd.C_alloc ?_ _) | (with_reducible refine Kd.C_drewN ?_ _) | (with_reducible refine Kd.C_drew ?_))); (case side2 => exact (Kd.R_reads' HO485.out).2.1); rintro e w140 ⟨rfl, hb⟩; refine ⟨_, rfl, ?_⟩; replace HO485 := A_ (Kd.R_below (by (with_reducible repeat (first | apply Kd.R_alloc | apply Kd.R_drewN | apply Kd.R_drew)); exact HO485.out) hb); replace BK457 := bk_ BK457 hb; replace HB := A_ (below_step mc41 hb); (try clear hb)) | ((with_reducible refine gc_ 15 rfl ?_); refine goesL_ (some 126) rfl rfl Tryz.func15 kr_ rfl #[.slice Ao139 t483.length co139] rfl mc47 ?_; (with_reducible refine (spec_ArchiveText.calls kj19 _ _ t483 t488 t489 _ ?side1 ?side2 A136.out).mono ?_); (case side1 => repeat (first | exact (Kd.R_reads' HO485.out).2.2 | (with_reducible refine Kd.C_alloc ?_ _) | (with_reducible refine Kd.C_drewN ?_ _) | (with_reducible refine Kd.C_drew ?_))); (case side2 => exact (Kd.R_reads' HO485.out).2.1); rintro e w141 ⟨rfl, hb⟩; refine ⟨_, rfl, ?_⟩; replace HO485 := A_ (Kd.R_below (by (with_reducible repeat (first | apply Kd.R_alloc | apply Kd.R_drewN | apply Kd.R_drew)); exact HO485.out) hb); replace BK457 := bk_ BK457 hb; replace HB := A_ (below_step mc41 hb); (try clear hb)))
         (try simp only [Act.put, List.setIfInBounds_toArray, List.set_cons_zero, List.set_cons_succ])
         go_cut [136] (fun v136 wc => ∃ (kq : Nat) (x136_136 : Bool), v136 = .bool x136_136 ∧ Aside0 (laws_FnProducts.j2 kq l0 t483 t486 t487 x136_136 = some r) ∧ Aside0 (kq ≤ kj19) ∧ Aside0 (Kd.R k26 26 wc w.heap.size (fun k_ => k_ ≠ gb457) (.slice Ao139 t483.length co139) t483) ∧ Aside0 (wc.heap[gb457]? = some (.cells #[.string t454, .int .i64 t455, .string t456] 26 (0, 0))) ∧ Aside0 (Below w.heap.size w wc))
         case first =>
          as_aux_lemma =>
           have H := HC137.out
           clear HC137
           by_cases c142 : t486.toList = t488.toList
           ·
            rw [if_pos c142] at H
            have c142b0 : (t486.toList == t488.toList) = true := beq_iff_eq.mpr c142
            have c142b1 : (t486.toList != t488.toList) = false := bne_eq_false_iff_eq.mpr c142
            clear c142
            (first | rw [c142b0] | (simp only [i64_w, i32_w]; rw [c142b0]) | skip)
            have H' := A_ H
            clear H
            go_wp2
            go_meet
            case rel => exact ⟨_, ((t487 != t489)), mc82, H', ⟨by have := HJ6.out; have := HJ19.out; first | omega | exact Nat.le_refl _⟩, ⟨by (with_reducible repeat (first | apply Kd.R_alloc | apply Kd.R_drewN | apply Kd.R_drew)); exact Kd.R_mono HO485.out (fun _ hk => hk.2)⟩, ⟨mc62⟩, ⟨mc41⟩⟩
           ·
            rw [if_neg c142] at H
            have c142b0 : (t486.toList == t488.toList) = false := beq_eq_false_iff_ne.mpr c142
            have c142b1 : (t486.toList != t488.toList) = true := bne_iff_ne.mpr c142
            (first | rw [c142b0] | (simp only [i64_w, i32_w]; rw [c142b0]) | skip)
            have H' := A_ H
            clear H
            go_wp2
            go_meet
            case rel => exact ⟨_, (true), mc82, H', ⟨by have := HJ6.out; have := HJ19.out; first | omega | exact Nat.le_refl _⟩, ⟨by (with_reducible repeat (first | apply Kd.R_alloc | apply Kd.R_drewN | apply Kd.R_drew)); exact Kd.R_mono HO485.out (fun _ hk => hk.2)⟩, ⟨mc62⟩, ⟨mc41⟩⟩
         case rest =>
          as_aux_lemma =>
           clear HC137
           try clear p2
           try clear c15b0
           try clear c15b1
           try clear c15b2
           try clear c28b0
           try clear c142b0
           try clear c142b1
           try clear p2
           obtain ⟨kq, x136_136, rfl, HA, HJ136, HO_15, BK457, HB⟩ := hcut
           cases kq with
           | zero => exact absurd HA.out (by simp [laws_FnProducts.j2])
           | succ kj136 =>
            have H := HA.out
            clear HA
            simp only [laws_FnProducts.j2] at H
            by_cases c143 : x136_136 = true
            ·
             subst c143
             have H1 : (some false) = some r := by rw [if_pos rfl] at H; exact H
             exact absurd ((Option.some.inj H1).trans hrt_) (by decide)
            ·
             replace c143 := Bool.eq_false_iff.mpr c143
             subst c143
             rw [if_neg (show ¬ (false = true) by decide)] at H
             obtain ⟨⟨t490, t491⟩, A1440, H⟩ := oB_ H
             have A144 := A_ A1440
             clear A1440
             have HC145 := A_ H
             clear H
             go_upto_region 20 with (first | ((with_reducible refine gc_ 16 rfl ?_); refine goesL_ (some 139) rfl rfl Tryz.func16 kr_ rfl #[.string t486] rfl mc47 ?_; (with_reducible refine (impl_ParseArchive.calls kj136 t486 t490 t491 _ A144.out ?sideG).mono ?_); (case sideG => exact (gw_below HG.out mc41)); rintro e w146 ⟨v492, rfl, ho0, hb⟩; refine ⟨_, rfl, ?_⟩; have HO493 := A_ (Kd.R_lower (Kd.R_newB (Kd.R_new' ho0 (Kd.R_lt (by (with_reducible repeat (first | apply Kd.R_alloc | apply Kd.R_drewN | apply Kd.R_drew)); exact HO_15.out))) (g := gb457) (o := .cells #[.string t454, .int .i64 t455, .string t456] 26 (0, 0)) BK457.out) (below_size mc41)); replace HO_15 := A_ (Kd.R_elder' (by (with_reducible repeat (first | apply Kd.R_alloc | apply Kd.R_drewN | apply Kd.R_drew)); exact HO_15.out) (Kd.R_base ho0) hb); replace BK457 := bk_ BK457 hb; replace HB := A_ (below_step mc41 hb); (try clear hb); (try clear ho0)))
             (try simp only [Act.put, List.setIfInBounds_toArray, List.set_cons_zero, List.set_cons_succ])
             go_cut [152] (fun v152 wc => ∃ (kq : Nat) (x152_144 : Bool), v152 = .bool x152_144 ∧ Aside0 (laws_FnProducts.j3 kq l0 x152_144 = some r) ∧ Aside0 (kq ≤ kj136) ∧ Aside0 (wc.heap[gb457]? = some (.cells #[.string t454, .int .i64 t455, .string t456] 26 (0, 0))) ∧ Aside0 (Below w.heap.size w wc))
             case first =>
              as_aux_lemma =>
               have H := HC145.out
               clear HC145
               by_cases c147 : t487 = true
               ·
                subst c147
                rw [if_pos rfl] at H
                by_cases c148 : t491 = true
                ·
                 subst c148
                 rw [if_pos rfl] at H
                 obtain ⟨t494, A1490, H⟩ := oB_ H
                 have A149 := A_ A1490
                 clear A1490
                 have H' := A_ H
                 clear H
                 obtain ⟨Ao150, co150, eo150⟩ := Kd.R_slice HO493.out
                 subst eo150
                 go_wp2_with (first | (go_at_call 8; (with_reducible refine (laws_rArchives.calls kj136 _ _ t490 _ _ t483 t494 _ ?side1 ?side2 ?side3 ?side4 A149.out).mono ?_); (case side1 => repeat (first | exact (Kd.R_reads' HO493.out).2.2 | (with_reducible refine Kd.C_alloc ?_ _) | (with_reducible refine Kd.C_drewN ?_ _) | (with_reducible refine Kd.C_drew ?_))); (case side2 => exact (Kd.R_reads' HO493.out).2.1); (case side3 => repeat (first | exact (Kd.R_reads' HO_15.out).2.2 | (with_reducible refine Kd.C_alloc ?_ _) | (with_reducible refine Kd.C_drewN ?_ _) | (with_reducible refine Kd.C_drew ?_))); (case side4 => exact (Kd.R_reads' HO_15.out).2.1); rintro e w' ⟨rfl, ⟨nd, rfl⟩⟩))
                 go_meet
                 case rel => exact ⟨_, (!t494), mc82, H', ⟨mc77⟩, ⟨mc62⟩, ⟨mc41⟩⟩
                ·
                 replace c148 := Bool.eq_false_iff.mpr c148
                 subst c148
                 rw [if_neg (show ¬ (false = true) by decide)] at H
                 have H' := A_ H
                 clear H
                 go_wp2
                 go_meet
                 case rel => exact ⟨_, (true), mc82, H', ⟨mc77⟩, ⟨mc62⟩, ⟨mc41⟩⟩
               ·
                replace c147 := Bool.eq_false_iff.mpr c147
                subst c147
                rw [if_neg (show ¬ (false = true) by decide)] at H
                have H' := A_ H
                clear H
                go_wp2
                go_meet
                case rel => exact ⟨_, (false), mc82, H', ⟨mc77⟩, ⟨mc62⟩, ⟨mc41⟩⟩
             case rest =>
              as_aux_lemma =>
               clear HC145
               try clear p2
               try clear c15b0
               try clear c15b1
               try clear c15b2
               try clear c28b0
               try clear c142b0
               try clear c142b1
               try clear p2
               obtain ⟨kq, x152_144, rfl, HA, HJ144, BK457, HB⟩ := hcut
               cases kq with
               | zero => exact absurd HA.out (by simp [laws_FnProducts.j3])
               | succ kj144 =>
                have H := HA.out
                clear HA
                simp only [laws_FnProducts.j3] at H
                by_cases c151 : x152_144 = true
                ·
                 subst c151
                 have H1 : (some false) = some r := by rw [if_pos rfl] at H; exact H
                 exact absurd ((Option.some.inj H1).trans hrt_) (by decide)
                ·
                 replace c151 := Bool.eq_false_iff.mpr c151
                 subst c151
                 rw [if_neg (show ¬ (false = true) by decide)] at H
                 obtain ⟨t495, A1520, H⟩ := oB_ H
                 have A152 := A_ A1520
                 clear A1520
                 obtain ⟨⟨t496, t497⟩, A1530, H⟩ := oB_ H
                 have A153 := A_ A1530
                 clear A1530
                 obtain ⟨⟨t500, t501⟩, A1540, H⟩ := oB_ H
                 have A154 := A_ A1540
                 clear A1540
                 have HC155 := A_ H
                 clear H
                 go_upto_region 25 with (first | ((with_reducible refine gc_ 17 rfl ?_); refine goesL_ (some 154) rfl rfl Tryz.func17 kr_ rfl #[.slice A0 l0.length c0] rfl mc47 ?_; (with_reducible refine (spec_DrawParseArchive.calls kj144 _ _ l0 t495 _ ?side1 ?side2 A152.out).mono ?_); (case side1 => exact mc31); (case side2 => exact HC0.out); rintro e w156 ⟨rfl, hb⟩; refine ⟨_, rfl, ?_⟩; replace BK457 := bk_ BK457 hb; replace HB := A_ (below_step mc41 hb); (try clear hb)) | ((with_reducible refine gc_ 16 rfl ?_); refine goesL_ (some 157) rfl rfl Tryz.func16 kr_ rfl #[.string t495] rfl mc47 ?_; (with_reducible refine (impl_ParseArchive.calls kj144 t495 t496 t497 _ A153.out ?sideG).mono ?_); (case sideG => exact (gw_below HG.out mc41)); rintro e w157 ⟨v498, rfl, ho0, hb⟩; refine ⟨_, rfl, ?_⟩; have HO499 := A_ (Kd.R_lower (Kd.R_newB ho0 (g := gb457) (o := .cells #[.string t454, .int .i64 t455, .string t456] 26 (0, 0)) BK457.out) (below_size mc41)); replace BK457 := bk_ BK457 hb; replace HB := A_ (below_step mc41 hb); (try clear hb); (try clear ho0)) | ((with_reducible refine gc_ 18 rfl ?_); refine goesL_ (some 162) rfl rfl Tryz.func18 kr_ rfl #[.string t495] rfl mc47 ?_; (with_reducible refine (spec_ParseArchive.calls kj144 t495 t500 t501 _ A154.out).mono ?_); rintro e w158 ⟨v502, rfl, ho0, hb⟩; refine ⟨_, rfl, ?_⟩; have HO503 := A_ (Kd.R_lower (Kd.R_newB (Kd.R_new' ho0 (Kd.R_lt (by (with_reducible repeat (first | apply Kd.R_alloc | apply Kd.R_drewN | apply Kd.R_drew)); exact HO499.out))) (g := gb457) (o := .cells #[.string t454, .int .i64 t455, .string t456] 26 (0, 0)) BK457.out) (below_size mc41)); replace HO499 := A_ (Kd.R_elder' (by (with_reducible repeat (first | apply Kd.R_alloc | apply Kd.R_drewN | apply Kd.R_drew)); exact HO499.out) (Kd.R_base ho0) hb); replace BK457 := bk_ BK457 hb; replace HB := A_ (below_step mc41 hb); (try clear hb); (try clear ho0)))
                 (try simp only [Act.put, List.setIfInBounds_toArray, List.set_cons_zero, List.set_cons_succ])
                 go_cut [173] (fun v173 wc => ∃ (kq : Nat) (x173_154 : Bool), v173 = .bool x173_154 ∧ Aside0 (laws_FnProducts.j4 kq l0 x173_154 = some r) ∧ Aside0 (kq ≤ kj144) ∧ Aside0 (wc.heap[gb457]? = some (.cells #[.string t454, .int .i64 t455, .string t456] 26 (0, 0))) ∧ Aside0 (Below w.heap.size w wc))
                 case first =>
                  as_aux_lemma =>
                   have H := HC155.out
                   clear HC155
                   by_cases c159 : (t497 != t501) = true
                   ·
                    rw [if_pos c159] at H
                    have c159b0 : (t497 != t501) = true := c159
                    (try (have c159b1 : decide (t497 = t501) = false := by simpa using c159))
                    (try (have c159b2 : (t497 == t501) = false := by simpa using c159))
                    (try (have c159b3 : ¬ (t497 = t501) := by simpa using c159))
                    clear c159
                    (first | rw [c159b0] | (simp only [i64_w, i32_w]; rw [c159b0]) | skip)
                    have H' := A_ H
                    clear H
                    go_wp2
                    go_meet
                    case rel => exact ⟨_, (true), mc82, H', ⟨by have := HJ6.out; have := HJ19.out; have := HJ136.out; have := HJ144.out; first | omega | exact Nat.le_refl _⟩, ⟨mc62⟩, ⟨mc41⟩⟩
                   ·
                    rw [if_neg c159] at H
                    have c159b0 : (t497 != t501) = false := by simpa using c159
                    (try (have c159b1 : decide (t497 = t501) = true := by simpa using c159))
                    (try (have c159b2 : (t497 == t501) = true := by simpa using c159))
                    clear c159
                    (first | rw [c159b0] | (simp only [i64_w, i32_w]; rw [c159b0]) | skip)
                    obtain ⟨t504, A1600, H⟩ := oB_ H
                    have A160 := A_ A1600
                    clear A1600
                    have H' := A_ H
                    clear H
                    obtain ⟨Ao161, co161, eo161⟩ := Kd.R_slice HO499.out
                    subst eo161
                    obtain ⟨Ao162, co162, eo162⟩ := Kd.R_slice HO503.out
                    subst eo162
                    go_wp2_with (first | (go_at_call 8; (with_reducible refine (laws_rArchives.calls kj144 _ _ t496 _ _ t500 t504 _ ?side1 ?side2 ?side3 ?side4 A160.out).mono ?_); (case side1 => repeat (first | exact (Kd.R_reads' HO499.out).2.2 | (with_reducible refine Kd.C_alloc ?_ _) | (with_reducible refine Kd.C_drewN ?_ _) | (with_reducible refine Kd.C_drew ?_))); (case side2 => exact (Kd.R_reads' HO499.out).2.1); (case side3 => repeat (first | exact (Kd.R_reads' HO503.out).2.2 | (with_reducible refine Kd.C_alloc ?_ _) | (with_reducible refine Kd.C_drewN ?_ _) | (with_reducible refine Kd.C_drew ?_))); (case side4 => exact (Kd.R_reads' HO503.out).2.1); rintro e w' ⟨rfl, ⟨nd, rfl⟩⟩))
                    go_meet
                    case rel => exact ⟨_, (!t504), mc82, H', ⟨by have := HJ6.out; have := HJ19.out; have := HJ136.out; have := HJ144.out; first | omega | exact Nat.le_refl _⟩, ⟨mc62⟩, ⟨mc41⟩⟩
                 case rest =>
                  as_aux_lemma =>
                   clear HC155
                   try clear p2
                   try clear c15b0
                   try clear c15b1
                   try clear c15b2
                   try clear c28b0
                   try clear c142b0
                   try clear c142b1
                   try clear c159b0
                   try clear c159b1
                   try clear c159b2
                   try clear p2
                   obtain ⟨kq, x173_154, rfl, HA, HJ154, BK457, HB⟩ := hcut
                   cases kq with
                   | zero => exact absurd HA.out (by simp [laws_FnProducts.j4])
                   | succ kj154 =>
                    have H := HA.out
                    clear HA
                    simp only [laws_FnProducts.j4] at H
                    by_cases c163 : x173_154 = true
                    ·
                     subst c163
                     have H1 : (some false) = some r := by rw [if_pos rfl] at H; exact H
                     exact absurd ((Option.some.inj H1).trans hrt_) (by decide)
                    ·
                     replace c163 := Bool.eq_false_iff.mpr c163
                     subst c163
                     rw [if_neg (show ¬ (false = true) by decide)] at H
                     obtain ⟨⟨t505, t506⟩, A1640, H⟩ := oB_ H
                     have A164 := A_ A1640
                     clear A1640
                     obtain ⟨⟨t509, t510⟩, A1650, H⟩ := oB_ H
                     have A165 := A_ A1650
                     clear A1650
                     obtain ⟨⟨t513, t514⟩, A1660, H⟩ := oB_ H
                     have A166 := A_ A1660
                     clear A1660
                     by_cases c167 : (t510 == t514) = true
                     ·
                      rw [if_pos c167] at H
                      have c167b0 : (t510 == t514) = true := c167
                      (try (have c167b1 : decide (t510 = t514) = true := by simpa using c167))
                      (try (have c167b2 : (t510 == t514) = true := by simpa using c167))
                      clear c167
                      obtain ⟨t517, A1680, H⟩ := oB_ H
                      have A168 := A_ A1680
                      clear A1680
                      obtain rfl := Option.some.inj H
                      go_wp2_with (first | ((with_reducible refine gc_ 19 rfl ?_); refine goesL_ (some 176) rfl rfl Tryz.func19 kr_ rfl #[.slice A0 l0.length c0] rfl mc47 ?_; (with_reducible refine (spec_DrawVersionsOf.calls kj154 _ _ l0 t505 t506 _ ?side1 ?side2 A164.out).mono ?_); (case side1 => exact mc31); (case side2 => exact HC0.out); rintro e w169 ⟨v507, rfl, ho0, hb⟩; refine ⟨_, rfl, ?_⟩; have HO508 := A_ (Kd.R_lower (Kd.R_newB ho0 (g := gb457) (o := .cells #[.string t454, .int .i64 t455, .string t456] 26 (0, 0)) BK457.out) (below_size mc41)); replace BK457 := bk_ BK457 hb; replace HB := A_ (below_step mc41 hb); (try clear hb); (try clear ho0); obtain ⟨Ao170, co170, eo170⟩ := Kd.R_slice HO508.out; subst eo170) | ((with_reducible refine gc_ 10 rfl ?_); refine goesL_ (some 182) rfl rfl Tryz.func10 kr_ rfl #[.slice Ao170 t505.length co170, .string t506] rfl mc47 ?_; (with_reducible refine (impl_VersionsOf.calls kj154 _ _ t505 t506 t509 t510 _ ?side1 ?side2 A165.out).mono ?_); (case side1 => repeat (first | exact (Kd.R_reads' HO508.out).2.2 | (with_reducible refine Kd.C_alloc ?_ _) | (with_reducible refine Kd.C_drewN ?_ _) | (with_reducible refine Kd.C_drew ?_))); (case side2 => exact (Kd.R_reads' HO508.out).2.1); rintro e w171 ⟨v511, rfl, ho0, hb⟩; refine ⟨_, rfl, ?_⟩; replace HO508 := A_ (Kd.R_below (by (with_reducible repeat (first | apply Kd.R_alloc | apply Kd.R_drewN | apply Kd.R_drew)); exact HO508.out) hb); have HO512 := A_ (Kd.R_lower ho0 (below_size mc41)); replace BK457 := bk_ BK457 hb; replace HB := A_ (below_step mc41 hb); (try clear hb); (try clear ho0)) | ((with_reducible refine gc_ 20 rfl ?_); refine goesL_ (some 188) rfl rfl Tryz.func20 kr_ rfl #[.slice Ao170 t505.length co170, .string t506] rfl mc47 ?_; (with_reducible refine (spec_VersionsOf.calls kj154 _ _ t505 t506 t513 t514 _ ?side1 ?side2 A166.out).mono ?_); (case side1 => repeat (first | exact (Kd.R_reads' HO508.out).2.2 | (with_reducible refine Kd.C_alloc ?_ _) | (with_reducible refine Kd.C_drewN ?_ _) | (with_reducible refine Kd.C_drew ?_))); (case side2 => exact (Kd.R_reads' HO508.out).2.1); rintro e w172 ⟨v515, rfl, ho0, hb⟩; refine ⟨_, rfl, ?_⟩; replace HO508 := A_ (Kd.R_below (by (with_reducible repeat (first | apply Kd.R_alloc | apply Kd.R_drewN | apply Kd.R_drew)); exact HO508.out) hb); have HO516 := A_ (Kd.R_lower (Kd.R_new' ho0 (Kd.R_lt (by (with_reducible repeat (first | apply Kd.R_alloc | apply Kd.R_drewN | apply Kd.R_drew)); exact HO512.out))) (below_size mc41)); replace HO512 := A_ (Kd.R_elder' (by (with_reducible repeat (first | apply Kd.R_alloc | apply Kd.R_drewN | apply Kd.R_drew)); exact HO512.out) (Kd.R_base ho0) hb); replace BK457 := bk_ BK457 hb; replace HB := A_ (below_step mc41 hb); (try clear hb); (try clear ho0); obtain ⟨Ao173, co173, eo173⟩ := Kd.R_slice HO512.out; subst eo173; obtain ⟨Ao174, co174, eo174⟩ := Kd.R_slice HO516.out; subst eo174) | (go_at_call 21; (with_reducible refine (laws_rInts.calls kj154 _ _ t509 _ _ t513 t517 _ ?side1 ?side2 ?side3 ?side4 A168.out).mono ?_); (case side1 => repeat (first | exact (Kd.R_reads' HO512.out).2.2 | (with_reducible refine Kd.C_alloc ?_ _) | (with_reducible refine Kd.C_drewN ?_ _) | (with_reducible refine Kd.C_drew ?_))); (case side2 => exact (Kd.R_reads' HO512.out).2.1); (case side3 => repeat (first | exact (Kd.R_reads' HO516.out).2.2 | (with_reducible refine Kd.C_alloc ?_ _) | (with_reducible refine Kd.C_drewN ?_ _) | (with_reducible refine Kd.C_drew ?_))); (case side4 => exact (Kd.R_reads' HO516.out).2.1); rintro e w' ⟨rfl, ⟨nd, rfl⟩⟩))
                      go_ret
                      exact ⟨mc76, mc41⟩
                     ·
                      rw [if_neg c167] at H
                      have c167b0 : (t510 == t514) = false := by simpa using c167
                      (try (have c167b1 : decide (t510 = t514) = false := by simpa using c167))
                      (try (have c167b2 : (t510 == t514) = false := by simpa using c167))
                      (try (have c167b3 : ¬ (t510 = t514) := by simpa using c167))
                      clear c167
                      exact absurd ((Option.some.inj H).trans hrt_) (by decide)
/-- THE ONE PURE STATEMENT of laws_FnProducts: yours. -/
def laws_FnProducts.Pure : Prop := ∀ (l0 : List Int), l0.length ≤ maxLen → l0.length * 1 ≤ 140737488351232 → (∀ x ∈ l0, (Lit.int .u8 x).wf = true) → ∃ k, laws_FnProducts.f k l0 = some true

end Go.Proofs.YtgmmanppmjlclaaGreatDoor.P
