-- Made by pp.py of this session out of the kit's print and of contracts proved by hand; Lean checks it.
import Derived.Test.YtdmkbfjipgaloaaMc
import Derived.Test.YtdmkbfjipgaloaaPx0
import Derived.Test.YtdmkbfjipgaloaaPx16
import Derived.Test.YtdmkbfjipgaloaaPx17
namespace Go.Proofs.Ytdmkbfjipgaloaa.P
open Go.RowKit Go.Proofs.YtdmkbfjipgaloaaW.PrintWords Go.Proofs.YtdmkbfjipgaloaaW.PrintLast Go.Proofs.YtdmkbfjipgaloaaW.PrintMore
attribute [local go_sem] max2_int min2_int max_two min_two max_three min_three max_four min_four   -- for this text's walks alone
set_option linter.unusedVariables false
set_option linter.unusedSimpArgs false

/-! ### spec_l1Cur_anyField: function 75 -/
def spec_l1Cur_anyField.f (k : Nat) (s0_0 : List Int) (s0_1 : Int) (s0_2 : Int) : Option (Int × Int × List Int × Int × Int) := (spec_l1Cur_field.f k s0_0 s0_1 s0_2).bind fun bt350 => ((spec_l1Cur_pick.f s0_0 bt350.2.2.2.1 bt350.2.2.2.2 24).bind fun bt358 => (if bt358.1 = 0 then ((spec_l1Cur_among.f s0_0 bt358.2.1 bt358.2.2 (([0, 9, 8, bt350.2.1] : List Int))).bind fun bt364 => (some (bt364.1, bt350.2.1, bt350.2.2.1, bt364.2.1, bt364.2.2))) else (if bt358.1 = 1 then ((spec_l1Cur_pick.f s0_0 bt358.2.1 bt358.2.2 (bt350.2.2.1.length : Int)).bind fun bt367 => ((spec_l1Cur_among.f s0_0 bt367.2.1 bt367.2.2 (([9001, (-9001), (-9998), (-9999)] : List Int))).bind fun bt373 => (if 0 ≤ bt367.1 then (if bt367.1 < (bt350.2.2.1.length : Int) then (some (bt350.1, bt350.2.1, (bt350.2.2.1.set (bt367.1 : Int).toNat bt373.1), bt373.2.1, bt373.2.2)) else (none)) else (none)))) else (if bt358.1 = 2 then (if 1 ≤ (bt350.2.2.1.length : Int) then (some (bt350.1, bt350.2.1, (bt350.2.2.1.drop (1 : Int).toNat), bt358.2.1, bt358.2.2)) else (none)) else (some (bt350.1, bt350.2.1, bt350.2.2.1, bt358.2.1, bt358.2.2))))))
def spec_l1Cur_anyField.T6 : Bool × List (List Nat × List Nat) := (true, [([], []), ([0], [0]), ([], []), ([], []), ([3], [3]), ([4], [4]), ([2, 5], [2, 5]), ([], []), ([], []), ([7, 8, 6], [7, 8]), ([1, 6, 0, 1, 2, 3, 4, 5, 6, 7, 8, 9], [1, 6]), ([10, 9, 9, 0, 1, 2, 3, 4, 5, 6, 7, 8, 9], [9, 10])])
def spec_l1Cur_anyField.B6 : List Nat := [0, 1, 0, 0, 8, 24, 60, 0, 0, 508, 1023, 2047]
theorem spec_l1Cur_anyField.tab6 : rtab .any (opsOf Try.f75 6) = spec_l1Cur_anyField.T6 := by kernel_rfl
theorem spec_l1Cur_anyField.bits6 : waitsOk spec_l1Cur_anyField.T6.2 spec_l1Cur_anyField.B6 = true := by kernel_rfl
set_option maxHeartbeats 8000000 in
set_option maxRecDepth 100000 in
theorem spec_l1Cur_anyField.calls (k : Nat) (g : Nat) (s0_0 : List Int) (s0_1 : Int) (s0_2 : Int) (r1 : Int) (r2 : Int) (r3 : List Int) (r4 : Int) (r5 : Int) (w0 w : World) (hI : IsS61 w0 w g s0_0 s0_1 s0_2) (hB : Below w0.heap.size w0 w) (h : spec_l1Cur_anyField.f k s0_0 s0_1 s0_2 = some (r1, r2, r3, r4, r5)) :
  Calls Try.prog 75 #[.pointer (some ⟨g, 0, none⟩)] w fun e w' => ∃ v2_ : Value, e = .returned (.agg #[.int .i64 r1, .int .i64 r2, v2_]) ∧ Kd.Q (Kd.int .i64) 3 w' w.heap.size (fun _ => True) v2_ r3 ∧ IsS61 w0 w' g s0_0 r4 r5 ∧ Below w0.heap.size w0 w' ∧ KeepBut w w' g none := by
 have hu26 := Try.underlying26
 have HI0 := A_ hI
 have HK := A_ (KeepBut.refl w g none)
 have HL := A_ hB.size
 clear hI
 have HW0 := A_ hB.size
 have HB := A_ hB
 clear hB
 have H : ((spec_l1Cur_field.f k s0_0 s0_1 s0_2).bind fun bt350 => ((spec_l1Cur_pick.f s0_0 bt350.2.2.2.1 bt350.2.2.2.2 24).bind fun bt358 => (if bt358.1 = 0 then ((spec_l1Cur_among.f s0_0 bt358.2.1 bt358.2.2 (([0, 9, 8, bt350.2.1] : List Int))).bind fun bt364 => (some (bt364.1, bt350.2.1, bt350.2.2.1, bt364.2.1, bt364.2.2))) else (if bt358.1 = 1 then ((spec_l1Cur_pick.f s0_0 bt358.2.1 bt358.2.2 (bt350.2.2.1.length : Int)).bind fun bt367 => ((spec_l1Cur_among.f s0_0 bt367.2.1 bt367.2.2 (([9001, (-9001), (-9998), (-9999)] : List Int))).bind fun bt373 => (if 0 ≤ bt367.1 then (if bt367.1 < (bt350.2.2.1.length : Int) then (some (bt350.1, bt350.2.1, (bt350.2.2.1.set (bt367.1 : Int).toNat bt373.1), bt373.2.1, bt373.2.2)) else (none)) else (none)))) else (if bt358.1 = 2 then (if 1 ≤ (bt350.2.2.1.length : Int) then (some (bt350.1, bt350.2.1, (bt350.2.2.1.drop (1 : Int).toNat), bt358.2.1, bt358.2.2)) else (none)) else (some (bt350.1, bt350.2.1, bt350.2.2.1, bt358.2.1, bt358.2.2))))))) = some (r1, r2, r3, r4, r5) := h
 clear h
 obtain ⟨⟨t350, t351, t352, t355, t356⟩, A20, H⟩ := oB_ H
 have A2 := A_ A20
 clear A20
 obtain ⟨⟨t358, t359, t360⟩, A30, H⟩ := oB_ H
 have A3 := A_ A30
 clear A30
 by_cases c4 : t358 = 0
 ·
  rw [if_pos c4] at H
  have c4b0 : (t358 == 0) = true := beq_iff_eq.mpr c4
  have c4b1 : (t358 != 0) = false := bne_eq_false_iff_eq.mpr c4
  clear c4
  obtain ⟨y361, hy361⟩ : ∃ y_ : List Int, y_ = (([0, 9, 8, t351] : List Int)) := ⟨_, rfl⟩
  replace H : ((spec_l1Cur_among.f s0_0 t359 t360 y361).bind fun bt364 => (some (bt364.1, t351, t352, bt364.2.1, bt364.2.2))) = some (r1, r2, r3, r4, r5) := by first | (rw [hy361]; with_reducible exact H) | (have H2_ := (Option.bind_some _ _).symm.trans H; rw [hy361]; with_reducible exact H2_) | (have H2_ := (Option.bind_some _ _).symm.trans H; with_reducible exact H2_) | with_reducible exact H | (rw [hy361]; exact H) | exact H
  have Ny361 := A_ hy361
  clear hy361
  obtain ⟨⟨t364, t365, t366⟩, A50, H⟩ := oB_ H
  have A5 := A_ A50
  clear A50
  simp only [Option.some.injEq, Prod.mk.injEq] at H
  obtain ⟨rfl, rfl, rfl, rfl, rfl⟩ := H
  go_enter Try.func75, Try.ntmps75
  go_wp2_with (first | ((with_reducible refine gd_ 2 rfl ?_); refine box_event rfl (N := 2) rfl (cs := #[.int .i64 0, .int .i64 0, .slice none 0 0]) (t := 26) mc353 ?_; intro gb349 hg w6 hbox hb; replace HB := A_ (below_step mc202 hb); have BK349 := A_ (hbox); have GW349 := A_ ((mc145 : w.heap.size ≤ gb349)); have GE349 := A_ ((Nat.le_trans HW0.out (mc145 : w.heap.size ≤ gb349) : w0.heap.size ≤ gb349)); replace HK := A_ (KeepBut.trans mc245 (KeepBut.of_below hb g none) (.inl rfl)); have NB0_349 := A_ ((mc100 : g ≠ gb349)); have NB349_0 := A_ ((mc101 : gb349 ≠ g)); replace HI0 := A_ (IsS61.below mc207 hb); clear hb hbox hg) | ((with_reducible refine gc_ 94 rfl ?_); refine goesL_ (some 5) rfl rfl Try.func94 kr_ rfl #[.pointer (some ⟨g, 0, none⟩)] rfl mc247 ?_; (with_reducible refine (spec_l1Cur_field.calls k g s0_0 s0_1 s0_2 t350 t351 t352 t355 t356 w0 _ ?side1 ?side2 A2.out).mono ?_); (case side1 => exact mc150); (case side2 => exact mc153); rintro e w7 ⟨v353, rfl, ho0, hi, hb, hk⟩; refine ⟨_, rfl, ?_⟩; replace BK349 := A_ (KeepBut.blk hk (g' := gb349) (o := .cells #[.int .i64 0, .int .i64 0, .slice none 0 0] 26 (0, 0)) mc299 NB349_0.out (by simp)); have HO354 := A_ (Kd.R_lower ho0 (keep_size (w := w) (g := g) (row := none) mc197)); replace HK := A_ (KeepBut.trans mc197 hk (.inl rfl)); replace HB := A_ (hb); replace HI0 := A_ (hi); (try clear hb); (try clear ho0)) | ((with_reducible refine gd_ 3 rfl ?_); refine box_event rfl (N := 3) rfl (cs := #[.int .i64 0, .int .i64 0, .slice none 0 0]) (t := 26) mc353 ?_; intro gb357 hg w8 hbox hb; replace HO354 := A_ (Kd.R_below mc327 hb); replace HB := A_ (below_step mc153 hb); have BK357 := A_ (hbox); have GW357 := A_ ((mc107 : w.heap.size ≤ gb357)); have GE357 := A_ ((Nat.le_trans HW0.out (mc107 : w.heap.size ≤ gb357) : w0.heap.size ≤ gb357)); replace HK := A_ (KeepBut.trans mc197 (KeepBut.of_below hb g none) (.inl rfl)); have NB349_357 := A_ ((mc241 : gb349 ≠ gb357)); have NB357_349 := A_ ((mc242 : gb357 ≠ gb349)); replace BK349 := A_ (blk_below mc299 hb); have NB0_357 := A_ ((mc77 : g ≠ gb357)); have NB357_0 := A_ ((mc78 : gb357 ≠ g)); replace HI0 := A_ (IsS61.below mc150 hb); clear hb hbox hg; have hnb9 := NB357_349.out; have hnc9 := NB349_357.out; have hnb10 := NB357_0.out; have hnc10 := NB0_357.out; have hcz11_0 : w8.cell? ⟨gb357, 0, none⟩ = some (.int .i64 0) := bc_ BK357 0 rfl; have hcz11_1 : w8.cell? ⟨gb357, 1, none⟩ = some (.int .i64 0) := bc_ BK357 1 rfl; have hcz11_2 : w8.cell? ⟨gb357, 2, none⟩ = some (.slice none 0 0) := bc_ BK357 2 rfl; have hfz11_0 := blk_frozen BK357.out 0; have hfz11_1 := blk_frozen BK357.out 1; have hfz11_2 := blk_frozen BK357.out 2; obtain ⟨Ao12, co12, eo12⟩ := Kd.R_slice HO354.out; subst eo12) | ((with_reducible refine gc_ 79 rfl ?_); refine goesL_ (some 7) rfl rfl Try.func79 kr_ rfl #[.pointer (some ⟨g, 0, none⟩), .int .i64 24] rfl mc247 ?_; (with_reducible refine (spec_l1Cur_pick.calls g s0_0 t355 t356 24 t358 t359 t360 w0 _ ?side1 ?side2 A3.out).mono ?_); (case side1 => exact mc110); (case side2 => exact mc119); rintro e w13 ⟨rfl, hi, hb, hk⟩; refine ⟨_, rfl, ?_⟩; replace BK349 := A_ (KeepBut.blk hk (g' := gb349) (o := .cells #[.int .i64 0, .int .i64 0, .slice none 0 0] 26 (0, 0)) mc8 NB349_0.out (by simp)); replace HO354 := A_ (Kd.R_mono (Kd.R_keep (IsS61.apart (show IsS61 w0 _ g s0_0 t355 t356 from by repeat (first | (with_reducible first | exact HI0.out | apply IsS61.alloc | apply IsS61.drewN | apply IsS61.drew | apply IsS61.set_1 | apply IsS61.set_2 | refine IsS61.far ?_ NB0_349.out _ | refine IsS61.far ?_ NB0_357.out _) | exact HI0.out)) (by (with_reducible repeat (first | apply Kd.R_alloc | apply Kd.R_drewN | apply Kd.R_drew)); exact (Kd.R_mono (Kd.R_far (p := ⟨gb357, 2, none⟩) (Kd.R_far (p := ⟨gb357, 1, none⟩) (Kd.R_far (p := ⟨gb357, 0, none⟩) (Kd.R_types HO354.out BK357.out (by decide)) (fun _ hk => hk.2) (.int .i64 t350)) (fun _ hk => hk.2) (.int .i64 t351)) (fun _ hk => hk.2) (.slice Ao12 t352.length co12)) (fun _ h_ => h_.1))) (by decide)) hk (fun _ h => h.2)) (fun _ h => h.1)); replace BK357 := A_ (KeepBut.blk hk (g' := gb357) (o := .cells #[.int .i64 t350, .int .i64 t351, .slice Ao12 t352.length co12] 26 (0, 0)) mc2 NB357_0.out (by simp)); replace HK := A_ (KeepBut.trans mc143 hk (.inl rfl)); replace HB := A_ (hb); replace HI0 := A_ (hi); (try clear hb); have hcz14_0 : w13.cell? ⟨gb357, 0, none⟩ = some (.int .i64 t350) := bc_ BK357 0 rfl; have hcz14_1 : w13.cell? ⟨gb357, 1, none⟩ = some (.int .i64 t351) := bc_ BK357 1 rfl; have hcz14_2 : w13.cell? ⟨gb357, 2, none⟩ = some (.slice Ao12 t352.length co12) := bc_ BK357 2 rfl; have hfz14_0 := blk_frozen BK357.out 0; have hfz14_1 := blk_frozen BK357.out 1; have hfz14_2 := blk_frozen BK357.out 2) | ((with_reducible refine gd_ 13 rfl ?_); refine Kd.R_lit (Kd.int .i64) _ 3 ?hg (N := 13) ?hd (xs := ([0, 9, 8, t351] : List Int)) (inner := [.int .i64 0, .int .i64 9, .int .i64 8, .int .i64 t351]) (ok := fun _ => True) (okp := fun _ => True) ?hr ?hp (fun _ hk => hk) trivial (Below.refl _ _) (Nat.le_refl _) (by simp) ?_; (case hd => rfl); (case hg => rfl); (case hr => exact mc353); (case hp => exact (Reps.one (show Kd.M (Kd.int .i64) _ _ _ 0 [.int .i64 0] from rfl) (Reps.one (show Kd.M (Kd.int .i64) _ _ _ 9 [.int .i64 9] from rfl) (Reps.one (show Kd.M (Kd.int .i64) _ _ _ 8 [.int .i64 8] from rfl) (Reps.one (show Kd.M (Kd.int .i64) _ _ _ t351 [.int .i64 t351] from rfl) (Reps.none _ _)))))); intro v362 w15 ho16 hb hg_ hnew_; clear hg_ hnew_; (first | rw [← Ny361.out] at ho16 | (simp only [Int.reduceToNat] at ho16; rw [← Ny361.out] at ho16)); have HO363 := A_ (Kd.R_lower (Kd.R_new' ho16 (Kd.R_lt mc327)) (keep_size (w := w) (g := g) (row := none) mc143)); replace HO354 := A_ (Kd.R_elder' mc327 (Kd.R_base ho16) hb); replace BK349 := A_ (blk_below mc299 hb); replace BK357 := A_ (blk_below mc300 hb); replace HK := A_ (KeepBut.trans mc143 (KeepBut.of_below hb g none) (.inl rfl)); replace HB := A_ (below_step mc119 hb); replace HI0 := A_ (IsS61.below mc110 hb); clear hb ho16; obtain ⟨Ao17, co17, eo17⟩ := Kd.R_slice HO363.out; subst eo17) | ((with_reducible refine gc_ 43 rfl ?_); refine goesL_ (some 14) rfl rfl Try.func43 kr_ rfl #[.pointer (some ⟨g, 0, none⟩), .slice Ao17 y361.length co17] rfl mc247 ?_; (with_reducible refine (spec_l1Cur_among.calls g s0_0 t359 t360 _ _ y361 t364 t365 t366 w0 _ ?side1 ?side2 ?side3 ?side4 ?side5 A5.out).mono ?_); (case side1 => exact mc110); (case side2 => exact mc119); (case side3 => repeat (first | exact (Kd.R_reads' HO363.out).2.2 | (with_reducible refine Kd.C_alloc ?_ _) | (with_reducible refine Kd.C_drewN ?_ _) | (with_reducible refine Kd.C_drew ?_))); (case side4 => exact (Kd.R_reads' HO363.out).2.1); (case side5 => exact far_slice (IsS61.own_ne HI0.out HO363.out (by decide))); rintro e w18 ⟨rfl, hi, hb, hk⟩; refine ⟨_, rfl, ?_⟩; replace BK349 := A_ (KeepBut.blk hk (g' := gb349) (o := .cells #[.int .i64 0, .int .i64 0, .slice none 0 0] 26 (0, 0)) mc299 NB349_0.out (by simp)); replace HO354 := A_ (Kd.R_mono (Kd.R_keep (IsS61.apart (show IsS61 w0 _ g s0_0 t359 t360 from by repeat (first | (with_reducible first | exact HI0.out | apply IsS61.alloc | apply IsS61.drewN | apply IsS61.drew | apply IsS61.set_1 | apply IsS61.set_2 | refine IsS61.far ?_ NB0_349.out _ | refine IsS61.far ?_ NB0_357.out _) | exact HI0.out)) mc327 (by decide)) hk (fun _ h => h.2)) (fun _ h => h.1)); replace BK357 := A_ (KeepBut.blk hk (g' := gb357) (o := .cells #[.int .i64 t350, .int .i64 t351, .slice Ao12 t352.length co12] 26 (0, 0)) mc300 NB357_0.out (by simp)); replace HO363 := A_ (Kd.R_mono (Kd.R_keep (IsS61.apart (show IsS61 w0 _ g s0_0 t359 t360 from by repeat (first | (with_reducible first | exact HI0.out | apply IsS61.alloc | apply IsS61.drewN | apply IsS61.drew | apply IsS61.set_1 | apply IsS61.set_2 | refine IsS61.far ?_ NB0_349.out _ | refine IsS61.far ?_ NB0_357.out _) | exact HI0.out)) (by (with_reducible repeat (first | apply Kd.R_alloc | apply Kd.R_drewN | apply Kd.R_drew)); exact HO363.out) (by decide)) hk (fun _ h => h.2)) (fun _ h => h.1)); replace HK := A_ (KeepBut.trans mc143 hk (.inl rfl)); replace HB := A_ (hb); replace HI0 := A_ (hi); (try clear hb); have hcz19_0 : w18.cell? ⟨gb357, 0, none⟩ = some (.int .i64 t350) := bc_ BK357 0 rfl; have hcz19_1 : w18.cell? ⟨gb357, 1, none⟩ = some (.int .i64 t351) := bc_ BK357 1 rfl; have hcz19_2 : w18.cell? ⟨gb357, 2, none⟩ = some (.slice Ao12 t352.length co12) := bc_ BK357 2 rfl; have hfz19_0 := blk_frozen BK357.out 0; have hfz19_1 := blk_frozen BK357.out 1; have hfz19_2 := blk_frozen BK357.out 2; have hnb20 := NB349_0.out; have hnc20 := NB0_349.out; have hcz21_0 : w18.cell? ⟨gb349, 0, none⟩ = some (.int .i64 0) := bc_ BK349 0 rfl; have hcz21_1 : w18.cell? ⟨gb349, 1, none⟩ = some (.int .i64 0) := bc_ BK349 1 rfl; have hcz21_2 : w18.cell? ⟨gb349, 2, none⟩ = some (.slice none 0 0) := bc_ BK349 2 rfl; have hfz21_0 := blk_frozen BK349.out 0; have hfz21_1 := blk_frozen BK349.out 1; have hfz21_2 := blk_frozen BK349.out 2))
  refine bodyPost_ret (results_cell_row rfl _ _ gb349 26 #[.int .i64 t364, .int .i64 t351, .slice Ao12 t352.length co12] (0, 0) _ rfl (by (with_reducible repeat (first | refine blk_drewN ?_ _ | refine blk_drew ?_ | refine blk_alloc ?_ _)); refine blk_put (cs := #[.int .i64 t364, .int .i64 t351, .slice none 0 0]) ?_ 2 _ rfl; (with_reducible repeat (first | refine blk_drewN ?_ _ | refine blk_drew ?_ | refine blk_alloc ?_ _)); refine blk_put (cs := #[.int .i64 t364, .int .i64 0, .slice none 0 0]) ?_ 1 _ rfl; (with_reducible repeat (first | refine blk_drewN ?_ _ | refine blk_drew ?_ | refine blk_alloc ?_ _)); refine blk_put (cs := #[.int .i64 0, .int .i64 0, .slice none 0 0]) ?_ 0 _ rfl; (with_reducible repeat (first | refine blk_drewN ?_ _ | refine blk_drew ?_ | refine blk_alloc ?_ _)); refine blk_far ?_ NB349_357.out _; (with_reducible repeat (first | refine blk_drewN ?_ _ | refine blk_drew ?_ | refine blk_alloc ?_ _)); exact BK349.out) Try.underlying26 rfl kr_) rfl ?_
  exact ⟨_, mc332, Kd.Q_of_R (by (with_reducible repeat (first | apply Kd.R_alloc | apply Kd.R_drewN | apply Kd.R_drew)); exact Kd.R_mono (Kd.R_far (p := ⟨gb349, 2, none⟩) (Kd.R_far (p := ⟨gb349, 1, none⟩) (Kd.R_far (p := ⟨gb349, 0, none⟩) (Kd.R_far (p := ⟨gb357, 0, none⟩) (Kd.R_types (Kd.R_types HO354.out BK357.out (by decide)) BK349.out (by decide)) (fun _ hk => hk.1.2) (.int .i64 t364)) (fun _ hk => hk.2) (.int .i64 t364)) (fun _ hk => hk.2) (.int .i64 t351)) (fun _ hk => hk.2) (.slice Ao12 t352.length co12)) (fun _ hk => trivial)), mc110, mc119, mc143⟩
 rw [if_neg c4] at H
 have c4b0 : (t358 == 0) = false := beq_eq_false_iff_ne.mpr c4
 have c4b1 : (t358 != 0) = true := bne_iff_ne.mpr c4
 by_cases c22 : t358 = 1
 rotate_left
 ·
  rw [if_neg c22] at H
  have c22b0 : (t358 == 1) = false := beq_eq_false_iff_ne.mpr c22
  have c22b1 : (t358 != 1) = true := bne_iff_ne.mpr c22
  by_cases c48 : t358 = 2
  rotate_left
  ·
   rw [if_neg c48] at H
   have c48b0 : (t358 == 2) = false := beq_eq_false_iff_ne.mpr c48
   have c48b1 : (t358 != 2) = true := bne_iff_ne.mpr c48
   simp only [Option.some.injEq, Prod.mk.injEq] at H
   obtain ⟨rfl, rfl, rfl, rfl, rfl⟩ := H
   go_enter Try.func75, Try.ntmps75
   go_wp2_with (first | ((with_reducible refine gd_ 2 rfl ?_); refine box_event rfl (N := 2) rfl (cs := #[.int .i64 0, .int .i64 0, .slice none 0 0]) (t := 26) mc353 ?_; intro gb349 hg w62 hbox hb; replace HB := A_ (below_step mc202 hb); have BK349 := A_ (hbox); have GW349 := A_ ((mc145 : w.heap.size ≤ gb349)); have GE349 := A_ ((Nat.le_trans HW0.out (mc145 : w.heap.size ≤ gb349) : w0.heap.size ≤ gb349)); replace HK := A_ (KeepBut.trans mc245 (KeepBut.of_below hb g none) (.inl rfl)); have NB0_349 := A_ ((mc100 : g ≠ gb349)); have NB349_0 := A_ ((mc101 : gb349 ≠ g)); replace HI0 := A_ (IsS61.below mc207 hb); clear hb hbox hg) | ((with_reducible refine gc_ 94 rfl ?_); refine goesL_ (some 5) rfl rfl Try.func94 kr_ rfl #[.pointer (some ⟨g, 0, none⟩)] rfl mc247 ?_; (with_reducible refine (spec_l1Cur_field.calls k g s0_0 s0_1 s0_2 t350 t351 t352 t355 t356 w0 _ ?side1 ?side2 A2.out).mono ?_); (case side1 => exact mc150); (case side2 => exact mc153); rintro e w63 ⟨v353, rfl, ho0, hi, hb, hk⟩; refine ⟨_, rfl, ?_⟩; replace BK349 := A_ (KeepBut.blk hk (g' := gb349) (o := .cells #[.int .i64 0, .int .i64 0, .slice none 0 0] 26 (0, 0)) mc299 NB349_0.out (by simp)); have HO354 := A_ (Kd.R_lower ho0 (keep_size (w := w) (g := g) (row := none) mc197)); replace HK := A_ (KeepBut.trans mc197 hk (.inl rfl)); replace HB := A_ (hb); replace HI0 := A_ (hi); (try clear hb); (try clear ho0)) | ((with_reducible refine gd_ 3 rfl ?_); refine box_event rfl (N := 3) rfl (cs := #[.int .i64 0, .int .i64 0, .slice none 0 0]) (t := 26) mc353 ?_; intro gb357 hg w64 hbox hb; replace HO354 := A_ (Kd.R_below mc327 hb); replace HB := A_ (below_step mc153 hb); have BK357 := A_ (hbox); have GW357 := A_ ((mc107 : w.heap.size ≤ gb357)); have GE357 := A_ ((Nat.le_trans HW0.out (mc107 : w.heap.size ≤ gb357) : w0.heap.size ≤ gb357)); replace HK := A_ (KeepBut.trans mc197 (KeepBut.of_below hb g none) (.inl rfl)); have NB349_357 := A_ ((mc241 : gb349 ≠ gb357)); have NB357_349 := A_ ((mc242 : gb357 ≠ gb349)); replace BK349 := A_ (blk_below mc299 hb); have NB0_357 := A_ ((mc77 : g ≠ gb357)); have NB357_0 := A_ ((mc78 : gb357 ≠ g)); replace HI0 := A_ (IsS61.below mc150 hb); clear hb hbox hg; have hnb65 := NB357_349.out; have hnc65 := NB349_357.out; have hnb66 := NB357_0.out; have hnc66 := NB0_357.out; have hcz67_0 : w64.cell? ⟨gb357, 0, none⟩ = some (.int .i64 0) := bc_ BK357 0 rfl; have hcz67_1 : w64.cell? ⟨gb357, 1, none⟩ = some (.int .i64 0) := bc_ BK357 1 rfl; have hcz67_2 : w64.cell? ⟨gb357, 2, none⟩ = some (.slice none 0 0) := bc_ BK357 2 rfl; have hfz67_0 := blk_frozen BK357.out 0; have hfz67_1 := blk_frozen BK357.out 1; have hfz67_2 := blk_frozen BK357.out 2; obtain ⟨Ao68, co68, eo68⟩ := Kd.R_slice HO354.out; subst eo68) | ((with_reducible refine gc_ 79 rfl ?_); refine goesL_ (some 7) rfl rfl Try.func79 kr_ rfl #[.pointer (some ⟨g, 0, none⟩), .int .i64 24] rfl mc247 ?_; (with_reducible refine (spec_l1Cur_pick.calls g s0_0 t355 t356 24 t358 t359 t360 w0 _ ?side1 ?side2 A3.out).mono ?_); (case side1 => exact mc110); (case side2 => exact mc119); rintro e w69 ⟨rfl, hi, hb, hk⟩; refine ⟨_, rfl, ?_⟩; replace BK349 := A_ (KeepBut.blk hk (g' := gb349) (o := .cells #[.int .i64 0, .int .i64 0, .slice none 0 0] 26 (0, 0)) mc8 NB349_0.out (by simp)); replace HO354 := A_ (Kd.R_mono (Kd.R_keep (IsS61.apart (show IsS61 w0 _ g s0_0 t355 t356 from by repeat (first | (with_reducible first | exact HI0.out | apply IsS61.alloc | apply IsS61.drewN | apply IsS61.drew | apply IsS61.set_1 | apply IsS61.set_2 | refine IsS61.far ?_ NB0_349.out _ | refine IsS61.far ?_ NB0_357.out _) | exact HI0.out)) (by (with_reducible repeat (first | apply Kd.R_alloc | apply Kd.R_drewN | apply Kd.R_drew)); exact (Kd.R_mono (Kd.R_far (p := ⟨gb357, 2, none⟩) (Kd.R_far (p := ⟨gb357, 1, none⟩) (Kd.R_far (p := ⟨gb357, 0, none⟩) (Kd.R_types HO354.out BK357.out (by decide)) (fun _ hk => hk.2) (.int .i64 t350)) (fun _ hk => hk.2) (.int .i64 t351)) (fun _ hk => hk.2) (.slice Ao68 t352.length co68)) (fun _ h_ => h_.1))) (by decide)) hk (fun _ h => h.2)) (fun _ h => h.1)); replace BK357 := A_ (KeepBut.blk hk (g' := gb357) (o := .cells #[.int .i64 t350, .int .i64 t351, .slice Ao68 t352.length co68] 26 (0, 0)) mc2 NB357_0.out (by simp)); replace HK := A_ (KeepBut.trans mc143 hk (.inl rfl)); replace HB := A_ (hb); replace HI0 := A_ (hi); (try clear hb); have hcz70_0 : w69.cell? ⟨gb357, 0, none⟩ = some (.int .i64 t350) := bc_ BK357 0 rfl; have hcz70_1 : w69.cell? ⟨gb357, 1, none⟩ = some (.int .i64 t351) := bc_ BK357 1 rfl; have hcz70_2 : w69.cell? ⟨gb357, 2, none⟩ = some (.slice Ao68 t352.length co68) := bc_ BK357 2 rfl; have hfz70_0 := blk_frozen BK357.out 0; have hfz70_1 := blk_frozen BK357.out 1; have hfz70_2 := blk_frozen BK357.out 2; have hnb71 := NB349_0.out; have hnc71 := NB0_349.out; have hcz72_0 : w69.cell? ⟨gb349, 0, none⟩ = some (.int .i64 0) := bc_ BK349 0 rfl; have hcz72_1 : w69.cell? ⟨gb349, 1, none⟩ = some (.int .i64 0) := bc_ BK349 1 rfl; have hcz72_2 : w69.cell? ⟨gb349, 2, none⟩ = some (.slice none 0 0) := bc_ BK349 2 rfl; have hfz72_0 := blk_frozen BK349.out 0; have hfz72_1 := blk_frozen BK349.out 1; have hfz72_2 := blk_frozen BK349.out 2))
   refine bodyPost_ret (results_cell_row rfl _ _ gb349 26 #[.int .i64 t350, .int .i64 t351, .slice Ao68 t352.length co68] (0, 0) _ rfl mc3 Try.underlying26 rfl kr_) rfl ?_
   exact ⟨_, mc332, Kd.Q_of_R (by (with_reducible repeat (first | apply Kd.R_alloc | apply Kd.R_drewN | apply Kd.R_drew)); exact Kd.R_mono (Kd.R_far (p := ⟨gb349, 2, none⟩) (Kd.R_far (p := ⟨gb349, 1, none⟩) (Kd.R_far (p := ⟨gb349, 0, none⟩) (Kd.R_types HO354.out BK349.out (by decide)) (fun _ hk => hk.2) (.int .i64 t350)) (fun _ hk => hk.2) (.int .i64 t351)) (fun _ hk => hk.2) (.slice Ao68 t352.length co68)) (fun _ hk => trivial)), mc110, mc119, mc143⟩
  rw [if_pos c48] at H
  have c48b0 : (t358 == 2) = true := beq_iff_eq.mpr c48
  have c48b1 : (t358 != 2) = false := bne_eq_false_iff_eq.mpr c48
  clear c48
  by_cases c49 : 1 ≤ (t352.length : Int)
  rotate_left
  ·
   rw [if_neg c49] at H
   exact absurd H (by simp)
  rw [if_pos c49] at H
  have c49b0 := eq_true c49
  have c49b1 : decide (1 ≤ (t352.length : Int)) = true := decide_eq_true c49
  clear c49
  obtain ⟨y377, hy377⟩ : ∃ y_ : List Int, y_ = (t352.drop (1 : Int).toNat) := ⟨_, rfl⟩
  replace H : (some (t350, t351, y377, t359, t360)) = some (r1, r2, r3, r4, r5) := by first | (rw [hy377]; with_reducible exact H) | (have H2_ := (Option.bind_some _ _).symm.trans H; rw [hy377]; with_reducible exact H2_) | (have H2_ := (Option.bind_some _ _).symm.trans H; with_reducible exact H2_) | with_reducible exact H | (rw [hy377]; exact H) | exact H
  have Ny377 := A_ hy377
  clear hy377
  simp only [Option.some.injEq, Prod.mk.injEq] at H
  obtain ⟨rfl, rfl, rfl, rfl, rfl⟩ := H
  go_enter Try.func75, Try.ntmps75
  go_wp2_with (first | ((with_reducible refine gd_ 2 rfl ?_); refine box_event rfl (N := 2) rfl (cs := #[.int .i64 0, .int .i64 0, .slice none 0 0]) (t := 26) mc353 ?_; intro gb349 hg w50 hbox hb; replace HB := A_ (below_step mc202 hb); have BK349 := A_ (hbox); have GW349 := A_ ((mc145 : w.heap.size ≤ gb349)); have GE349 := A_ ((Nat.le_trans HW0.out (mc145 : w.heap.size ≤ gb349) : w0.heap.size ≤ gb349)); replace HK := A_ (KeepBut.trans mc245 (KeepBut.of_below hb g none) (.inl rfl)); have NB0_349 := A_ ((mc100 : g ≠ gb349)); have NB349_0 := A_ ((mc101 : gb349 ≠ g)); replace HI0 := A_ (IsS61.below mc207 hb); clear hb hbox hg) | ((with_reducible refine gc_ 94 rfl ?_); refine goesL_ (some 5) rfl rfl Try.func94 kr_ rfl #[.pointer (some ⟨g, 0, none⟩)] rfl mc247 ?_; (with_reducible refine (spec_l1Cur_field.calls k g s0_0 s0_1 s0_2 t350 t351 t352 t355 t356 w0 _ ?side1 ?side2 A2.out).mono ?_); (case side1 => exact mc150); (case side2 => exact mc153); rintro e w51 ⟨v353, rfl, ho0, hi, hb, hk⟩; refine ⟨_, rfl, ?_⟩; replace BK349 := A_ (KeepBut.blk hk (g' := gb349) (o := .cells #[.int .i64 0, .int .i64 0, .slice none 0 0] 26 (0, 0)) mc299 NB349_0.out (by simp)); have HO354 := A_ (Kd.R_lower ho0 (keep_size (w := w) (g := g) (row := none) mc197)); replace HK := A_ (KeepBut.trans mc197 hk (.inl rfl)); replace HB := A_ (hb); replace HI0 := A_ (hi); (try clear hb); (try clear ho0)) | ((with_reducible refine gd_ 3 rfl ?_); refine box_event rfl (N := 3) rfl (cs := #[.int .i64 0, .int .i64 0, .slice none 0 0]) (t := 26) mc353 ?_; intro gb357 hg w52 hbox hb; replace HO354 := A_ (Kd.R_below mc327 hb); replace HB := A_ (below_step mc153 hb); have BK357 := A_ (hbox); have GW357 := A_ ((mc107 : w.heap.size ≤ gb357)); have GE357 := A_ ((Nat.le_trans HW0.out (mc107 : w.heap.size ≤ gb357) : w0.heap.size ≤ gb357)); replace HK := A_ (KeepBut.trans mc197 (KeepBut.of_below hb g none) (.inl rfl)); have NB349_357 := A_ ((mc241 : gb349 ≠ gb357)); have NB357_349 := A_ ((mc242 : gb357 ≠ gb349)); replace BK349 := A_ (blk_below mc299 hb); have NB0_357 := A_ ((mc77 : g ≠ gb357)); have NB357_0 := A_ ((mc78 : gb357 ≠ g)); replace HI0 := A_ (IsS61.below mc150 hb); clear hb hbox hg; have hnb53 := NB357_349.out; have hnc53 := NB349_357.out; have hnb54 := NB357_0.out; have hnc54 := NB0_357.out; have hcz55_0 : w52.cell? ⟨gb357, 0, none⟩ = some (.int .i64 0) := bc_ BK357 0 rfl; have hcz55_1 : w52.cell? ⟨gb357, 1, none⟩ = some (.int .i64 0) := bc_ BK357 1 rfl; have hcz55_2 : w52.cell? ⟨gb357, 2, none⟩ = some (.slice none 0 0) := bc_ BK357 2 rfl; have hfz55_0 := blk_frozen BK357.out 0; have hfz55_1 := blk_frozen BK357.out 1; have hfz55_2 := blk_frozen BK357.out 2; obtain ⟨Ao56, co56, eo56⟩ := Kd.R_slice HO354.out; subst eo56) | ((with_reducible refine gc_ 79 rfl ?_); refine goesL_ (some 7) rfl rfl Try.func79 kr_ rfl #[.pointer (some ⟨g, 0, none⟩), .int .i64 24] rfl mc247 ?_; (with_reducible refine (spec_l1Cur_pick.calls g s0_0 t355 t356 24 t358 t359 t360 w0 _ ?side1 ?side2 A3.out).mono ?_); (case side1 => exact mc110); (case side2 => exact mc119); rintro e w57 ⟨rfl, hi, hb, hk⟩; refine ⟨_, rfl, ?_⟩; replace BK349 := A_ (KeepBut.blk hk (g' := gb349) (o := .cells #[.int .i64 0, .int .i64 0, .slice none 0 0] 26 (0, 0)) mc8 NB349_0.out (by simp)); replace HO354 := A_ (Kd.R_mono (Kd.R_keep (IsS61.apart (show IsS61 w0 _ g s0_0 t355 t356 from by repeat (first | (with_reducible first | exact HI0.out | apply IsS61.alloc | apply IsS61.drewN | apply IsS61.drew | apply IsS61.set_1 | apply IsS61.set_2 | refine IsS61.far ?_ NB0_349.out _ | refine IsS61.far ?_ NB0_357.out _) | exact HI0.out)) (by (with_reducible repeat (first | apply Kd.R_alloc | apply Kd.R_drewN | apply Kd.R_drew)); exact (Kd.R_mono (Kd.R_far (p := ⟨gb357, 2, none⟩) (Kd.R_far (p := ⟨gb357, 1, none⟩) (Kd.R_far (p := ⟨gb357, 0, none⟩) (Kd.R_types HO354.out BK357.out (by decide)) (fun _ hk => hk.2) (.int .i64 t350)) (fun _ hk => hk.2) (.int .i64 t351)) (fun _ hk => hk.2) (.slice Ao56 t352.length co56)) (fun _ h_ => h_.1))) (by decide)) hk (fun _ h => h.2)) (fun _ h => h.1)); replace BK357 := A_ (KeepBut.blk hk (g' := gb357) (o := .cells #[.int .i64 t350, .int .i64 t351, .slice Ao56 t352.length co56] 26 (0, 0)) mc2 NB357_0.out (by simp)); replace HK := A_ (KeepBut.trans mc143 hk (.inl rfl)); replace HB := A_ (hb); replace HI0 := A_ (hi); (try clear hb); have hcz58_0 : w57.cell? ⟨gb357, 0, none⟩ = some (.int .i64 t350) := bc_ BK357 0 rfl; have hcz58_1 : w57.cell? ⟨gb357, 1, none⟩ = some (.int .i64 t351) := bc_ BK357 1 rfl; have hcz58_2 : w57.cell? ⟨gb357, 2, none⟩ = some (.slice Ao56 t352.length co56) := bc_ BK357 2 rfl; have hfz58_0 := blk_frozen BK357.out 0; have hfz58_1 := blk_frozen BK357.out 1; have hfz58_2 := blk_frozen BK357.out 2; have q59 : (1 : Int) ≤ ((t352.length : Int) : Int) := of_decide_eq_true mc341; obtain ⟨i059, hi059, _, hsz59, _⟩ := info_parts info3; have hcut59 := cut_from (P := Try.prog) 24 3 .i64 Try.underlying24 hi059 1 hsz59 Ao56 t352.length co56 1 (by omega) q59; have hr59 := Kd.Q_drop (k := (1 : Int).toNat) (Kd.Q_of_R HO354.out) (by omega); obtain ⟨A59, hA59⟩ : ∃ A1, A1 = (if co56 = (1 : Int).toNat then Ao56 else (Ao56 : Option Addr).map (·.add ((1 : Int).toNat * 1))) := ⟨_, rfl⟩; obtain ⟨c59, hc59⟩ : ∃ c1, c1 = co56 - (1 : Int).toNat := ⟨_, rfl⟩; have hy59 : y377.length = t352.length - (1 : Int).toNat := (by rw [Ny377.out, List.length_drop]); rw [← Ny377.out] at hr59; rw [← hy59, ← hA59, ← hc59] at hcut59; replace hr59 : Kd.Q (Kd.int .i64) 3 w57 w.heap.size (fun _ => True) (.slice A59 y377.length c59) y377 := (by rw [hA59, hc59, hy59]; exact hr59); have HE59 : Aside0 ((Value.slice A59 y377.length c59).ownBlock = (.slice Ao56 t352.length co56 : Value).ownBlock) := ⟨by rw [hA59]; split <;> (cases (Ao56 : Option Addr) <;> rfl)⟩; clear hy59 hi059 hsz59 HO354 hA59 hc59; have HO379 := A_ hr59; clear hr59; replace q59 := eq_true q59; have hnb60 := NB349_0.out; have hnc60 := NB0_349.out; have hcz61_0 : w57.cell? ⟨gb349, 0, none⟩ = some (.int .i64 0) := bc_ BK349 0 rfl; have hcz61_1 : w57.cell? ⟨gb349, 1, none⟩ = some (.int .i64 0) := bc_ BK349 1 rfl; have hcz61_2 : w57.cell? ⟨gb349, 2, none⟩ = some (.slice none 0 0) := bc_ BK349 2 rfl; have hfz61_0 := blk_frozen BK349.out 0; have hfz61_1 := blk_frozen BK349.out 1; have hfz61_2 := blk_frozen BK349.out 2))
  refine bodyPost_ret (results_cell_row rfl _ _ gb349 26 #[.int .i64 t350, .int .i64 t351, .slice A59 y377.length c59] (0, 0) _ rfl (by (with_reducible repeat (first | refine blk_drewN ?_ _ | refine blk_drew ?_ | refine blk_alloc ?_ _)); refine blk_put (cs := #[.int .i64 t350, .int .i64 t351, .slice none 0 0]) ?_ 2 _ rfl; (with_reducible repeat (first | refine blk_drewN ?_ _ | refine blk_drew ?_ | refine blk_alloc ?_ _)); refine blk_put (cs := #[.int .i64 t350, .int .i64 0, .slice none 0 0]) ?_ 1 _ rfl; (with_reducible repeat (first | refine blk_drewN ?_ _ | refine blk_drew ?_ | refine blk_alloc ?_ _)); refine blk_put (cs := #[.int .i64 0, .int .i64 0, .slice none 0 0]) ?_ 0 _ rfl; (with_reducible repeat (first | refine blk_drewN ?_ _ | refine blk_drew ?_ | refine blk_alloc ?_ _)); refine blk_far ?_ NB349_357.out _; (with_reducible repeat (first | refine blk_drewN ?_ _ | refine blk_drew ?_ | refine blk_alloc ?_ _)); exact BK349.out) Try.underlying26 rfl kr_) rfl ?_
  exact ⟨_, mc332, by (with_reducible repeat (first | apply Kd.Q_alloc | apply Kd.Q_drewN | apply Kd.Q_drew)); exact Kd.Q_mono (Kd.Q_far (p := ⟨gb349, 2, none⟩) (Kd.Q_far (p := ⟨gb349, 1, none⟩) (Kd.Q_far (p := ⟨gb349, 0, none⟩) (Kd.Q_far (p := ⟨gb357, 2, none⟩) (Kd.Q_types (Kd.Q_types HO379.out BK357.out (by decide)) BK349.out (by decide)) (fun _ hk => hk.1.2) (.slice A59 y377.length c59)) (fun _ hk => hk.2) (.int .i64 t350)) (fun _ hk => hk.2) (.int .i64 t351)) (fun _ hk => hk.2) (.slice A59 y377.length c59)) (fun _ hk => trivial), mc110, mc119, mc143⟩
 rw [if_pos c22] at H
 have c22b0 : (t358 == 1) = true := beq_iff_eq.mpr c22
 have c22b1 : (t358 != 1) = false := bne_eq_false_iff_eq.mpr c22
 clear c22
 obtain ⟨⟨t367, t368, t369⟩, A230, H⟩ := oB_ H
 have A23 := A_ A230
 clear A230
 obtain ⟨y370, hy370⟩ : ∃ y_ : List Int, y_ = (([9001, (-9001), (-9998), (-9999)] : List Int)) := ⟨_, rfl⟩
 replace H : ((spec_l1Cur_among.f s0_0 t368 t369 y370).bind fun bt373 => (if 0 ≤ t367 then (if t367 < (t352.length : Int) then (some (t350, t351, (t352.set (t367 : Int).toNat bt373.1), bt373.2.1, bt373.2.2)) else (none)) else (none))) = some (r1, r2, r3, r4, r5) := by first | (rw [hy370]; with_reducible exact H) | (have H2_ := (Option.bind_some _ _).symm.trans H; rw [hy370]; with_reducible exact H2_) | (have H2_ := (Option.bind_some _ _).symm.trans H; with_reducible exact H2_) | with_reducible exact H | (rw [hy370]; exact H) | exact H
 have Ny370 := A_ hy370
 clear hy370
 obtain ⟨⟨t373, t374, t375⟩, A240, H⟩ := oB_ H
 have A24 := A_ A240
 clear A240
 by_cases c25 : 0 ≤ t367
 rotate_left
 ·
  rw [if_neg c25] at H
  exact absurd H (by simp)
 rw [if_pos c25] at H
 have c25b0 : decide (0 ≤ t367) = true := decide_eq_true c25
 clear c25
 by_cases c26 : t367 < (t352.length : Int)
 rotate_left
 ·
  rw [if_neg c26] at H
  exact absurd H (by simp)
 rw [if_pos c26] at H
 have c26b0 : decide (t367 < (t352.length : Int)) = true := decide_eq_true c26
 clear c26
 obtain ⟨y376, hy376⟩ : ∃ y_ : List Int, y_ = (t352.set (t367 : Int).toNat t373) := ⟨_, rfl⟩
 replace H : (some (t350, t351, y376, t374, t375)) = some (r1, r2, r3, r4, r5) := by first | (rw [hy376]; with_reducible exact H) | (have H2_ := (Option.bind_some _ _).symm.trans H; rw [hy376]; with_reducible exact H2_) | (have H2_ := (Option.bind_some _ _).symm.trans H; with_reducible exact H2_) | with_reducible exact H | (rw [hy376]; exact H) | exact H
 have Ny376 := A_ hy376
 clear hy376
 simp only [Option.some.injEq, Prod.mk.injEq] at H
 obtain ⟨rfl, rfl, rfl, rfl, rfl⟩ := H
 go_enter Try.func75, Try.ntmps75
 try go_wp2_with (first | ((with_reducible refine gd_ 2 rfl ?_); refine box_event rfl (N := 2) rfl (cs := #[.int .i64 0, .int .i64 0, .slice none 0 0]) (t := 26) mc353 ?_; intro gb349 hg w28 hbox hb; replace HB := A_ (below_step mc202 hb); have BK349 := A_ (hbox); have GW349 := A_ ((mc145 : w.heap.size ≤ gb349)); have GE349 := A_ ((Nat.le_trans HW0.out (mc145 : w.heap.size ≤ gb349) : w0.heap.size ≤ gb349)); replace HK := A_ (KeepBut.trans mc245 (KeepBut.of_below hb g none) (.inl rfl)); have NB0_349 := A_ ((mc100 : g ≠ gb349)); have NB349_0 := A_ ((mc101 : gb349 ≠ g)); replace HI0 := A_ (IsS61.below mc207 hb); clear hb hbox hg) | ((with_reducible refine gc_ 94 rfl ?_); refine goesL_ (some 5) rfl rfl Try.func94 kr_ rfl #[.pointer (some ⟨g, 0, none⟩)] rfl mc247 ?_; (with_reducible refine (spec_l1Cur_field.calls k g s0_0 s0_1 s0_2 t350 t351 t352 t355 t356 w0 _ ?side1 ?side2 A2.out).mono ?_); (case side1 => exact mc150); (case side2 => exact mc153); rintro e w29 ⟨v353, rfl, ho0, hi, hb, hk⟩; refine ⟨_, rfl, ?_⟩; replace BK349 := A_ (KeepBut.blk hk (g' := gb349) (o := .cells #[.int .i64 0, .int .i64 0, .slice none 0 0] 26 (0, 0)) mc299 NB349_0.out (by simp)); have HO354 := A_ (Kd.R_lower ho0 (keep_size (w := w) (g := g) (row := none) mc197)); replace HK := A_ (KeepBut.trans mc197 hk (.inl rfl)); replace HB := A_ (hb); replace HI0 := A_ (hi); (try clear hb); (try clear ho0)) | ((with_reducible refine gd_ 3 rfl ?_); refine box_event rfl (N := 3) rfl (cs := #[.int .i64 0, .int .i64 0, .slice none 0 0]) (t := 26) mc353 ?_; intro gb357 hg w30 hbox hb; replace HO354 := A_ (Kd.R_below mc327 hb); replace HB := A_ (below_step mc153 hb); have BK357 := A_ (hbox); have GW357 := A_ ((mc107 : w.heap.size ≤ gb357)); have GE357 := A_ ((Nat.le_trans HW0.out (mc107 : w.heap.size ≤ gb357) : w0.heap.size ≤ gb357)); replace HK := A_ (KeepBut.trans mc197 (KeepBut.of_below hb g none) (.inl rfl)); have NB349_357 := A_ ((mc241 : gb349 ≠ gb357)); have NB357_349 := A_ ((mc242 : gb357 ≠ gb349)); replace BK349 := A_ (blk_below mc299 hb); have NB0_357 := A_ ((mc77 : g ≠ gb357)); have NB357_0 := A_ ((mc78 : gb357 ≠ g)); replace HI0 := A_ (IsS61.below mc150 hb); clear hb hbox hg; have hnb31 := NB357_349.out; have hnc31 := NB349_357.out; have hnb32 := NB357_0.out; have hnc32 := NB0_357.out; have hcz33_0 : w30.cell? ⟨gb357, 0, none⟩ = some (.int .i64 0) := bc_ BK357 0 rfl; have hcz33_1 : w30.cell? ⟨gb357, 1, none⟩ = some (.int .i64 0) := bc_ BK357 1 rfl; have hcz33_2 : w30.cell? ⟨gb357, 2, none⟩ = some (.slice none 0 0) := bc_ BK357 2 rfl; have hfz33_0 := blk_frozen BK357.out 0; have hfz33_1 := blk_frozen BK357.out 1; have hfz33_2 := blk_frozen BK357.out 2; obtain ⟨Ao34, co34, eo34⟩ := Kd.R_slice HO354.out; subst eo34) | ((with_reducible refine gc_ 79 rfl ?_); refine goesL_ (some 7) rfl rfl Try.func79 kr_ rfl #[.pointer (some ⟨g, 0, none⟩), .int .i64 24] rfl mc247 ?_; (with_reducible refine (spec_l1Cur_pick.calls g s0_0 t355 t356 24 t358 t359 t360 w0 _ ?side1 ?side2 A3.out).mono ?_); (case side1 => exact mc110); (case side2 => exact mc119); rintro e w35 ⟨rfl, hi, hb, hk⟩; refine ⟨_, rfl, ?_⟩; replace BK349 := A_ (KeepBut.blk hk (g' := gb349) (o := .cells #[.int .i64 0, .int .i64 0, .slice none 0 0] 26 (0, 0)) mc8 NB349_0.out (by simp)); replace HO354 := A_ (Kd.R_mono (Kd.R_keep (IsS61.apart (show IsS61 w0 _ g s0_0 t355 t356 from by repeat (first | (with_reducible first | exact HI0.out | apply IsS61.alloc | apply IsS61.drewN | apply IsS61.drew | apply IsS61.set_1 | apply IsS61.set_2 | refine IsS61.far ?_ NB0_349.out _ | refine IsS61.far ?_ NB0_357.out _) | exact HI0.out)) (by (with_reducible repeat (first | apply Kd.R_alloc | apply Kd.R_drewN | apply Kd.R_drew)); exact (Kd.R_mono (Kd.R_far (p := ⟨gb357, 2, none⟩) (Kd.R_far (p := ⟨gb357, 1, none⟩) (Kd.R_far (p := ⟨gb357, 0, none⟩) (Kd.R_types HO354.out BK357.out (by decide)) (fun _ hk => hk.2) (.int .i64 t350)) (fun _ hk => hk.2) (.int .i64 t351)) (fun _ hk => hk.2) (.slice Ao34 t352.length co34)) (fun _ h_ => h_.1))) (by decide)) hk (fun _ h => h.2)) (fun _ h => h.1)); replace BK357 := A_ (KeepBut.blk hk (g' := gb357) (o := .cells #[.int .i64 t350, .int .i64 t351, .slice Ao34 t352.length co34] 26 (0, 0)) mc2 NB357_0.out (by simp)); replace HK := A_ (KeepBut.trans mc143 hk (.inl rfl)); replace HB := A_ (hb); replace HI0 := A_ (hi); (try clear hb)))
 replace HO354 := A_ (Kd.R_drew HO354.out)
 replace BK349 := A_ (blk_drew BK349.out)
 replace BK357 := A_ (blk_drew BK357.out)
 replace HI0 := A_ (IsS61.drew HI0.out)
 replace HK := A_ (keep_drew HK.out)
 replace HB := A_ (below_drew1 HB.out)
 refine start_ (n := 12) (S := fun w' => w'.cell? ⟨gb357, 0, none⟩ = some (.int .i64 t350) ∧ w'.cell? ⟨gb357, 1, none⟩ = some (.int .i64 t351) ∧ w'.cell? ⟨gb357, 2, none⟩ = some (.slice Ao34 t352.length co34)) (ds := [11]) #[false, false, false, false, false, false, false, false, false, false, false, false] kr_ rfl rfl ⟨bc_ BK357 0 rfl, bc_ BK357 1 rfl, bc_ BK357 2 rfl⟩ (fun hHeld => ?_); refine with_tabW spec_l1Cur_anyField.tab6 spec_l1Cur_anyField.bits6 (fun HT_ HW_ => ?_)
 generalize w35.drew = w36 at HO354 BK349 BK357 HI0 HK HB hHeld ⊢
 refine pure_ (i := 0) (N := some 18) #[true, false, false, false, false, false, false, false, false, false, false, false] rfl rfl (any_of HT_.out kr_) (fun _ _ _ h => h) (Or.inl ⟨by rfl, mc354⟩) mc312 ?_
 refine pure_ (i := 2) (N := some 20) #[true, false, true, false, false, false, false, false, false, false, false, false] rfl rfl (any_of HT_.out kr_) (fun _ _ _ h => h) (Or.inl ⟨by rfl, mc354⟩) mc312 ?_
 refine pure_ (i := 3) (N := some 21) #[true, false, true, true, false, false, false, false, false, false, false, false] rfl rfl (any_of HT_.out kr_) (fun _ _ _ h => h) (Or.inl ⟨by rfl, mc354⟩) mc312 ?_
 refine pure_ (i := 7) (N := some 25) #[true, false, true, true, false, false, false, true, false, false, false, false] rfl rfl (any_of HT_.out kr_) (fun _ _ _ h => h) (Or.inl ⟨by rfl, mc354⟩) mc312 ?_
 refine take_ (i := 1) (N := some 19) #[true, true, true, true, false, false, false, true, false, false, false, false] rfl rfl (take_ofW HT_.out HW_.out kr_) (fun _ _ _ h => h) (Or.inl ⟨by rfl, mc340⟩) hHeld mc312 ?_
 refine take_ (i := 4) (N := some 22) #[true, true, true, true, true, false, false, true, false, false, false, false] rfl rfl (take_ofW HT_.out HW_.out kr_) (fun _ _ _ h => h) (Or.inl ⟨by rfl, mc340⟩) hHeld mc312 ?_
 refine pure_ (i := 5) (N := some 23) #[true, true, true, true, true, true, false, true, false, false, false, false] rfl rfl (any_of HT_.out kr_) (fun _ _ _ h => h) (Or.inl ⟨by rfl, mc354⟩) mc312 ?_
 refine join_ (σ := Value) 3 #[true, true, true, true, true, true, true, true, true, false, false, false] (fun s_ => [(24, .int .i64 t367), (26, s_)]) (fun s_ w' => (w'.cell? ⟨gb357, 0, none⟩ = some (.int .i64 t350) ∧ w'.cell? ⟨gb357, 1, none⟩ = some (.int .i64 t351) ∧ w'.cell? ⟨gb357, 2, none⟩ = some (.slice Ao34 t352.length co34)) ∧ (Kd.R (Kd.int .i64) 3 w' w.heap.size (fun k_ => some k_ ≠ (s_ : Value).ownBlock) (.slice Ao34 t352.length co34) t352) ∧ (Kd.R (Kd.int .i64) 3 w' w.heap.size (fun k_ => some k_ ≠ (.slice Ao34 t352.length co34 : Value).ownBlock) s_ y370) ∧ (w'.heap[gb349]? = some (.cells #[.int .i64 0, .int .i64 0, .slice none 0 0] 26 (0, 0))) ∧ (w'.heap[gb357]? = some (.cells #[.int .i64 t350, .int .i64 t351, .slice Ao34 t352.length co34] 26 (0, 0))) ∧ (IsS61 w0 w' g s0_0 t368 t369) ∧ (KeepBut w w' g none) ∧ (Below w0.heap.size w0 w')) ?_ ?_
 rotate_left
 ·
  intro hCont
  refine two_ (i := 6) (j := 8) (Ni := some 24) (Nj := some 26) #[true, true, true, true, true, true, true, true, false, false, false, false] #[true, true, true, true, true, true, false, true, true, false, false, false] rfl rfl rfl rfl (two_of HT_.out kr_) (by decide) (by decide) (fun K hK => ?_) (fun K hK => ?_)
  ·
   skip
   refine goes_ Try.func79 kr_ rfl #[.pointer (some ⟨g, 0, none⟩), .int .i64 (t352.length : Int)] (by rfl) rfl rfl mc247 ?_
   with_reducible refine (spec_l1Cur_pick.calls g s0_0 t359 t360 (t352.length : Int) t367 t368 t369 w0 _ ?side1 ?side2 A23.out).mono ?_
   (case side1 => exact mc110)
   (case side2 => exact mc119)
   rintro e w37 ⟨rfl, hi, hb, hk⟩
   refine ⟨_, rfl, ?_⟩
   replace BK349 := A_ (KeepBut.blk hk (g' := gb349) (o := .cells #[.int .i64 0, .int .i64 0, .slice none 0 0] 26 (0, 0)) mc299 NB349_0.out (by simp))
   replace HO354 := A_ (Kd.R_mono (Kd.R_keep (IsS61.apart (show IsS61 w0 _ g s0_0 t359 t360 from by repeat (first | (with_reducible first | exact HI0.out | apply IsS61.alloc | apply IsS61.drewN | apply IsS61.drew | apply IsS61.set_1 | apply IsS61.set_2 | refine IsS61.far ?_ NB0_349.out _ | refine IsS61.far ?_ NB0_357.out _) | exact HI0.out)) mc327 (by decide)) hk (fun _ h => h.2)) (fun _ h => h.1))
   replace BK357 := A_ (KeepBut.blk hk (g' := gb357) (o := .cells #[.int .i64 t350, .int .i64 t351, .slice Ao34 t352.length co34] 26 (0, 0)) mc300 NB357_0.out (by simp))
   replace HK := A_ (KeepBut.trans mc143 hk (.inl rfl))
   replace HB := A_ (hb)
   replace HI0 := A_ (hi)
   (try clear hb)
   refine hK.out _ _ ⟨bc_ BK357 0 rfl, bc_ BK357 1 rfl, bc_ BK357 2 rfl⟩ (fun hHeld => ?_)
   clear hK K
   refine norm_ (by show Act.put _ (some 24) _ = _; simp only [Act.put, List.setIfInBounds_toArray, List.set_cons_zero, List.set_cons_succ, i64_w, i32_w]; rfl) ?_
   refine one_ (i := 8) (N := some 26) #[true, true, true, true, true, true, true, true, true, false, false, false] rfl rfl (one_of HT_.out kr_) (by decide) (fun K hK => ?_)
   refine Kd.R_lit_step (Kd.int .i64) _ 3 ?hg (N := 26) ?hd (xs := ([9001, (-9001), (-9998), (-9999)] : List Int)) (inner := [.int .i64 9001, .int .i64 (-9001), .int .i64 (-9998), .int .i64 (-9999)]) (ok := fun _ => True) (okp := fun _ => True) ?hr ?hp (fun _ hk => hk) trivial (Below.refl _ _) (Nat.le_refl _) (by simp) ?_; (case hd => rfl); (case hg => rfl); (case hr => exact mc353); (case hp => exact (Reps.one (show Kd.M (Kd.int .i64) _ _ _ 9001 [.int .i64 9001] from rfl) (Reps.one (show Kd.M (Kd.int .i64) _ _ _ (-9001) [.int .i64 (-9001)] from rfl) (Reps.one (show Kd.M (Kd.int .i64) _ _ _ (-9998) [.int .i64 (-9998)] from rfl) (Reps.one (show Kd.M (Kd.int .i64) _ _ _ (-9999) [.int .i64 (-9999)] from rfl) (Reps.none _ _))))))
   intro v371 w38 ho39 hb hg_ hnew_
   clear hg_ hnew_
   (first | rw [← Ny370.out] at ho39 | (simp only [Int.reduceToNat] at ho39; rw [← Ny370.out] at ho39))
   have HO372 := A_ (Kd.R_lower (Kd.R_new' ho39 (Kd.R_lt mc327)) (keep_size (w := w) (g := g) (row := none) mc143))
   replace HO354 := A_ (Kd.R_elder' mc327 (Kd.R_base ho39) hb)
   replace BK349 := A_ (blk_below mc299 hb)
   replace BK357 := A_ (blk_below mc300 hb)
   replace HK := A_ (KeepBut.trans mc143 (KeepBut.of_below hb g none) (.inl rfl))
   replace HB := A_ (below_step mc119 hb)
   replace HI0 := A_ (IsS61.below mc110 hb)
   clear hb ho39
   refine hK.out _ _ ⟨bc_ BK357 0 rfl, bc_ BK357 1 rfl, bc_ BK357 2 rfl⟩ (fun hHeld => ?_)
   clear hK K
   refine norm_ (by show Act.put _ (some 26) _ = _; simp only [Act.put, List.setIfInBounds_toArray, List.set_cons_zero, List.set_cons_succ, i64_w, i32_w]; rfl) ?_
   exact norm_ mc331 (hCont (v371) _ ⟨hHeld, (by (with_reducible repeat (first | apply Kd.R_alloc | apply Kd.R_drewN | apply Kd.R_drew)); exact Kd.R_mono HO354.out (fun _ hk => hk.2)), (by (with_reducible repeat (first | apply Kd.R_alloc | apply Kd.R_drewN | apply Kd.R_drew)); exact Kd.R_mono HO372.out (fun _ hk => hk.2)), mc299, mc300, mc110, mc143, mc119⟩)
  skip
  refine Kd.R_lit_step (Kd.int .i64) _ 3 ?hg (N := 26) ?hd (xs := ([9001, (-9001), (-9998), (-9999)] : List Int)) (inner := [.int .i64 9001, .int .i64 (-9001), .int .i64 (-9998), .int .i64 (-9999)]) (ok := fun _ => True) (okp := fun _ => True) ?hr ?hp (fun _ hk => hk) trivial (Below.refl _ _) (Nat.le_refl _) (by simp) ?_; (case hd => rfl); (case hg => rfl); (case hr => exact mc353); (case hp => exact (Reps.one (show Kd.M (Kd.int .i64) _ _ _ 9001 [.int .i64 9001] from rfl) (Reps.one (show Kd.M (Kd.int .i64) _ _ _ (-9001) [.int .i64 (-9001)] from rfl) (Reps.one (show Kd.M (Kd.int .i64) _ _ _ (-9998) [.int .i64 (-9998)] from rfl) (Reps.one (show Kd.M (Kd.int .i64) _ _ _ (-9999) [.int .i64 (-9999)] from rfl) (Reps.none _ _))))))
  intro v371 w37 ho38 hb hg_ hnew_
  clear hg_ hnew_
  (first | rw [← Ny370.out] at ho38 | (simp only [Int.reduceToNat] at ho38; rw [← Ny370.out] at ho38))
  have HO372 := A_ (Kd.R_lower (Kd.R_new' ho38 (Kd.R_lt mc327)) (keep_size (w := w) (g := g) (row := none) mc143))
  replace HO354 := A_ (Kd.R_elder' mc327 (Kd.R_base ho38) hb)
  replace BK349 := A_ (blk_below mc299 hb)
  replace BK357 := A_ (blk_below mc300 hb)
  replace HK := A_ (KeepBut.trans mc143 (KeepBut.of_below hb g none) (.inl rfl))
  replace HB := A_ (below_step mc119 hb)
  replace HI0 := A_ (IsS61.below mc110 hb)
  clear hb ho38
  refine hK.out _ _ ⟨bc_ BK357 0 rfl, bc_ BK357 1 rfl, bc_ BK357 2 rfl⟩ (fun hHeld => ?_)
  clear hK K
  refine norm_ (by show Act.put _ (some 26) _ = _; simp only [Act.put, List.setIfInBounds_toArray, List.set_cons_zero, List.set_cons_succ, i64_w, i32_w]; rfl) ?_
  refine one_ (i := 6) (N := some 24) #[true, true, true, true, true, true, true, true, true, false, false, false] rfl rfl (one_of HT_.out kr_) (by decide) (fun K hK => ?_)
  refine goes_ Try.func79 kr_ rfl #[.pointer (some ⟨g, 0, none⟩), .int .i64 (t352.length : Int)] (by rfl) rfl rfl mc247 ?_
  with_reducible refine (spec_l1Cur_pick.calls g s0_0 t359 t360 (t352.length : Int) t367 t368 t369 w0 _ ?side1 ?side2 A23.out).mono ?_
  (case side1 => exact mc110)
  (case side2 => exact mc119)
  rintro e w39 ⟨rfl, hi, hb, hk⟩
  refine ⟨_, rfl, ?_⟩
  replace BK349 := A_ (KeepBut.blk hk (g' := gb349) (o := .cells #[.int .i64 0, .int .i64 0, .slice none 0 0] 26 (0, 0)) mc299 NB349_0.out (by simp))
  replace HO354 := A_ (Kd.R_mono (Kd.R_keep (IsS61.apart (show IsS61 w0 _ g s0_0 t359 t360 from by repeat (first | (with_reducible first | exact HI0.out | apply IsS61.alloc | apply IsS61.drewN | apply IsS61.drew | apply IsS61.set_1 | apply IsS61.set_2 | refine IsS61.far ?_ NB0_349.out _ | refine IsS61.far ?_ NB0_357.out _) | exact HI0.out)) mc327 (by decide)) hk (fun _ h => h.2)) (fun _ h => h.1))
  replace BK357 := A_ (KeepBut.blk hk (g' := gb357) (o := .cells #[.int .i64 t350, .int .i64 t351, .slice Ao34 t352.length co34] 26 (0, 0)) mc300 NB357_0.out (by simp))
  replace HO372 := A_ (Kd.R_mono (Kd.R_keep (IsS61.apart (show IsS61 w0 _ g s0_0 t359 t360 from by repeat (first | (with_reducible first | exact HI0.out | apply IsS61.alloc | apply IsS61.drewN | apply IsS61.drew | apply IsS61.set_1 | apply IsS61.set_2 | refine IsS61.far ?_ NB0_349.out _ | refine IsS61.far ?_ NB0_357.out _) | exact HI0.out)) (by (with_reducible repeat (first | apply Kd.R_alloc | apply Kd.R_drewN | apply Kd.R_drew)); exact HO372.out) (by decide)) hk (fun _ h => h.2)) (fun _ h => h.1))
  replace HK := A_ (KeepBut.trans mc143 hk (.inl rfl))
  replace HB := A_ (hb)
  replace HI0 := A_ (hi)
  (try clear hb)
  refine hK.out _ _ ⟨bc_ BK357 0 rfl, bc_ BK357 1 rfl, bc_ BK357 2 rfl⟩ (fun hHeld => ?_)
  clear hK K
  refine norm_ (by show Act.put _ (some 24) _ = _; simp only [Act.put, List.setIfInBounds_toArray, List.set_cons_zero, List.set_cons_succ, i64_w, i32_w]; rfl) ?_
  exact norm_ mc331 (hCont (v371) _ ⟨hHeld, (by (with_reducible repeat (first | apply Kd.R_alloc | apply Kd.R_drewN | apply Kd.R_drew)); exact Kd.R_mono HO354.out (fun _ hk => hk.2)), (by (with_reducible repeat (first | apply Kd.R_alloc | apply Kd.R_drewN | apply Kd.R_drew)); exact Kd.R_mono HO372.out (fun _ hk => hk.2)), mc299, mc300, mc110, mc143, mc119⟩)
 rintro v371 w40 ⟨hS_, h0_, h1_, h2_, h3_, h4_, h5_, h6_⟩
 try dsimp only at h0_ h1_ h2_ h3_ h4_ h5_ h6_
 replace HO354 := A_ h0_
 have HO372 := A_ h1_
 replace BK349 := A_ h2_
 replace BK357 := A_ h3_
 replace HI0 := A_ h4_
 replace HK := A_ h5_
 replace HB := A_ h6_
 clear h0_ h1_ h2_ h3_ h4_ h5_ h6_
 have hHeld : w40.cell? ⟨gb357, 0, none⟩ = some (.int .i64 t350) ∧ w40.cell? ⟨gb357, 1, none⟩ = some (.int .i64 t351) ∧ w40.cell? ⟨gb357, 2, none⟩ = some (.slice Ao34 t352.length co34) := hS_
 obtain ⟨Ao41, co41, eo41⟩ := Kd.R_slice HO372.out
 (first | subst eo41 | (injection eo41 with f1_ f2_ f3_; have f4_ := f1_.symm; have f5_ := f3_.symm; clear f1_ f2_ f3_; subst f4_; subst f5_))
 refine norm_ (a' := ?_) ?_ ?_
 rotate_left
 ·
  simp only [putAll, Act.put, List.setIfInBounds_toArray, List.set_cons_zero, List.set_cons_succ]
  rfl
 refine one_ (i := 9) (N := some 27) #[true, true, true, true, true, true, true, true, true, true, false, false] rfl rfl (one_of HT_.out kr_) (by decide) (fun K hK => ?_)
 refine goes_ Try.func43 kr_ rfl #[.pointer (some ⟨g, 0, none⟩), .slice Ao41 y370.length co41] (by rfl) rfl rfl mc247 ?_
 with_reducible refine (spec_l1Cur_among.calls g s0_0 t368 t369 _ _ y370 t373 t374 t375 w0 _ ?side1 ?side2 ?side3 ?side4 ?side5 A24.out).mono ?_
 (case side1 => exact mc110)
 (case side2 => exact mc119)
 (case side3 => repeat (first | exact (Kd.R_reads' HO372.out).2.2 | (with_reducible refine Kd.C_alloc ?_ _) | (with_reducible refine Kd.C_drewN ?_ _) | (with_reducible refine Kd.C_drew ?_)))
 (case side4 => exact (Kd.R_reads' HO372.out).2.1)
 (case side5 => exact far_slice (IsS61.own_ne HI0.out HO372.out (by decide)))
 rintro e w42 ⟨rfl, hi, hb, hk⟩
 refine ⟨_, rfl, ?_⟩
 replace BK349 := A_ (KeepBut.blk hk (g' := gb349) (o := .cells #[.int .i64 0, .int .i64 0, .slice none 0 0] 26 (0, 0)) mc299 NB349_0.out (by simp))
 replace HO354 := A_ (Kd.R_mono (Kd.R_keep (IsS61.apart (show IsS61 w0 _ g s0_0 t368 t369 from by repeat (first | (with_reducible first | exact HI0.out | apply IsS61.alloc | apply IsS61.drewN | apply IsS61.drew | apply IsS61.set_1 | apply IsS61.set_2 | refine IsS61.far ?_ NB0_349.out _ | refine IsS61.far ?_ NB0_357.out _) | exact HI0.out)) mc327 (by decide)) hk (fun _ h => h.2)) (fun _ h => h.1))
 replace BK357 := A_ (KeepBut.blk hk (g' := gb357) (o := .cells #[.int .i64 t350, .int .i64 t351, .slice Ao34 t352.length co34] 26 (0, 0)) mc300 NB357_0.out (by simp))
 replace HO372 := A_ (Kd.R_mono (Kd.R_keep (IsS61.apart (show IsS61 w0 _ g s0_0 t368 t369 from by repeat (first | (with_reducible first | exact HI0.out | apply IsS61.alloc | apply IsS61.drewN | apply IsS61.drew | apply IsS61.set_1 | apply IsS61.set_2 | refine IsS61.far ?_ NB0_349.out _ | refine IsS61.far ?_ NB0_357.out _) | exact HI0.out)) (by (with_reducible repeat (first | apply Kd.R_alloc | apply Kd.R_drewN | apply Kd.R_drew)); exact HO372.out) (by decide)) hk (fun _ h => h.2)) (fun _ h => h.1))
 replace HK := A_ (KeepBut.trans mc143 hk (.inl rfl))
 replace HB := A_ (hb)
 replace HI0 := A_ (hi)
 (try clear hb)
 have p27 : 0 ≤ (t367 : Int) := of_decide_eq_true mc341
 have q27 : (t367 : Int) < ((t352.length : Int) : Int) := of_decide_eq_true mc341
 obtain ⟨go27, co27, eo27, gb27, gl27, cl27, HG27⟩ := Kd.R_form HO354.out (by omega)
 (first | cases eo27 | (injection eo27 with ea_ en_ ec_; (first | subst ea_ | (injection ea_ with ea_; subst ea_)); subst ec_; clear en_))
 have GB27 := A_ gb27
 have GG27 := A_ HG27
 clear gb27 gl27 HG27
 obtain ⟨hx27_0, hf27_0⟩ := Kd.R_celln 0 HO354.out (t367 : Int) p27 q27
 replace p27 := eq_true p27
 replace q27 := eq_true q27
 have HN0_go27 := A_ (show g ≠ go27 from by have h_ := IsS61.own_ne HI0.out HO354.out (by decide); intro e_; exact h_ mc357)
 have HP43 := Kd.R_putn HO354.out (t367 : Int) t373
 rw [← Ny376.out] at HP43
 have HQ43 := A_ HP43
 clear HP43
 refine hK.out _ _ ⟨bc_ BK357 0 rfl, bc_ BK357 1 rfl, bc_ BK357 2 rfl⟩ (fun hHeld => ?_)
 clear hK K
 refine norm_ (by show Act.put _ (some 27) _ = _; simp only [Act.put, List.setIfInBounds_toArray, List.set_cons_zero, List.set_cons_succ, i64_w, i32_w]; rfl) ?_
 refine pure_ (i := 10) (N := some 28) #[true, true, true, true, true, true, true, true, true, true, true, false] rfl rfl (any_of HT_.out kr_) (fun _ _ _ h => h) (Or.inl ⟨by rfl, mc354⟩) mc312 ?_
 refine last_ (i := 11) (N := none) #[true, true, true, true, true, true, true, true, true, true, true, true] rfl rfl (one_of HT_.out kr_) (by decide) (fun K hK => ?_)
 refine skip_ (w1 := ?_) (by rfl) rfl ?_ ?_
 rotate_left
 ·
  go_simp
  rfl
 refine hK.out _ _ ?_
 clear hK K
 refine done_ (done_of HT_.out kr_) ?_
 have n0_ : Aside0 (Kd.R (Kd.int .i64) 3 (w42.setCell ⟨go27, (t367 : Int).toNat, none⟩ (.int .i64 t373)) w.heap.size (fun k_ => some k_ ≠ (.slice Ao41 y370.length co41 : Value).ownBlock) (.slice (some ⟨go27, 0, none⟩) t352.length co34) y376) := ⟨by (with_reducible repeat (first | apply Kd.R_alloc | apply Kd.R_drewN | apply Kd.R_drew)); exact HQ43.out⟩
 have n1_ : Aside0 (Kd.R (Kd.int .i64) 3 (w42.setCell ⟨go27, (t367 : Int).toNat, none⟩ (.int .i64 t373)) w.heap.size (fun k_ => some k_ ≠ (.slice (some ⟨go27, 0, none⟩) t352.length co34 : Value).ownBlock) (.slice Ao41 y370.length co41) y370) := ⟨by (with_reducible repeat (first | apply Kd.R_alloc | apply Kd.R_drewN | apply Kd.R_drew)); exact Kd.R_mono (Kd.R_far (p := ⟨go27, (t367 : Int).toNat, none⟩) (Kd.R_mono HO372.out (fun k_ hk => (⟨hk, fun e_ => hk mc357⟩ : _ ∧ k_ ≠ go27))) (fun _ hk => hk.2) (.int .i64 t373)) (fun _ hk => hk.1)⟩
 have n2_ : Aside0 ((w42.setCell ⟨go27, (t367 : Int).toNat, none⟩ (.int .i64 t373)).heap[gb349]? = some (.cells #[.int .i64 0, .int .i64 0, .slice none 0 0] 26 (0, 0))) := ⟨by (with_reducible repeat (first | refine blk_drewN ?_ _ | refine blk_drew ?_ | refine blk_alloc ?_ _)); refine blk_far ?_ (by have h_ := Kd.R_ne HO354.out BK349.out (by decide); intro e_; exact h_ mc357) _; (with_reducible repeat (first | refine blk_drewN ?_ _ | refine blk_drew ?_ | refine blk_alloc ?_ _)); exact BK349.out⟩
 have n3_ : Aside0 ((w42.setCell ⟨go27, (t367 : Int).toNat, none⟩ (.int .i64 t373)).heap[gb357]? = some (.cells #[.int .i64 t350, .int .i64 t351, .slice (some ⟨go27, 0, none⟩) t352.length co34] 26 (0, 0))) := ⟨by (with_reducible repeat (first | refine blk_drewN ?_ _ | refine blk_drew ?_ | refine blk_alloc ?_ _)); refine blk_far ?_ (by have h_ := Kd.R_ne HO354.out BK357.out (by decide); intro e_; exact h_ mc357) _; (with_reducible repeat (first | refine blk_drewN ?_ _ | refine blk_drew ?_ | refine blk_alloc ?_ _)); exact BK357.out⟩
 have n4_ : Aside0 (IsS61 w0 (w42.setCell ⟨go27, (t367 : Int).toNat, none⟩ (.int .i64 t373)) g s0_0 t374 t375) := ⟨by repeat (first | (with_reducible first | exact HI0.out | apply IsS61.alloc | apply IsS61.drewN | apply IsS61.drew | apply IsS61.set_1 | apply IsS61.set_2 | refine IsS61.far ?_ HN0_go27.out _ | refine IsS61.far ?_ NB0_349.out _ | refine IsS61.far ?_ NB0_357.out _) | exact HI0.out)⟩
 have n5_ : Aside0 (KeepBut w (w42.setCell ⟨go27, (t367 : Int).toNat, none⟩ (.int .i64 t373)) g none) := ⟨by repeat (first | (with_reducible first | exact HK.out | apply KeepBut.set_ | apply keep_drewN | apply keep_drew | apply keep_alloc | refine keep_far ?_ GB27.out _ | refine keep_far ?_ GW349.out _ | refine keep_far ?_ GW357.out _) | exact HK.out)⟩
 have n6_ : Aside0 (Below w0.heap.size w0 (w42.setCell ⟨go27, (t367 : Int).toNat, none⟩ (.int .i64 t373))) := ⟨by repeat (first | (with_reducible first | exact HB.out | apply below_alloc | apply pw_below_drewN | apply below_drew1 | refine below_set ?_ (Nat.le_trans HL.out GB27.out) | refine below_set ?_ (IsS61.ge HI0.out) | refine below_set ?_ GE349.out | refine below_set ?_ GE357.out) | exact HB.out)⟩
 (try clear HO354)
 (try clear HO372)
 (try clear BK349)
 (try clear BK357)
 (try clear HI0)
 (try clear HK)
 (try clear HB)
 generalize (w42.setCell ⟨go27, (t367 : Int).toNat, none⟩ (.int .i64 t373)) = w44 at n0_ n1_ n2_ n3_ n4_ n5_ n6_ ⊢
 have HO354 := n0_
 have HO372 := n1_
 have BK349 := n2_
 have BK357 := n3_
 have HI0 := n4_
 have HK := n5_
 have HB := n6_
 clear n0_ n1_ n2_ n3_ n4_ n5_ n6_
 have hcz45_0 : w44.cell? ⟨gb357, 0, none⟩ = some (.int .i64 t350) := bc_ BK357 0 rfl
 have hcz45_1 : w44.cell? ⟨gb357, 1, none⟩ = some (.int .i64 t351) := bc_ BK357 1 rfl
 have hcz45_2 : w44.cell? ⟨gb357, 2, none⟩ = some (.slice (some ⟨go27, 0, none⟩) t352.length co34) := bc_ BK357 2 rfl
 have hfz45_0 := blk_frozen BK357.out 0
 have hfz45_1 := blk_frozen BK357.out 1
 have hfz45_2 := blk_frozen BK357.out 2
 have hnb46 := NB349_0.out
 have hnc46 := NB0_349.out
 have hcz47_0 : w44.cell? ⟨gb349, 0, none⟩ = some (.int .i64 0) := bc_ BK349 0 rfl
 have hcz47_1 : w44.cell? ⟨gb349, 1, none⟩ = some (.int .i64 0) := bc_ BK349 1 rfl
 have hcz47_2 : w44.cell? ⟨gb349, 2, none⟩ = some (.slice none 0 0) := bc_ BK349 2 rfl
 have hfz47_0 := blk_frozen BK349.out 0
 have hfz47_1 := blk_frozen BK349.out 1
 have hfz47_2 := blk_frozen BK349.out 2
 try go_wp2
 refine bodyPost_ret (results_cell_row rfl _ _ gb349 26 #[.int .i64 t350, .int .i64 t351, .slice (some ⟨go27, 0, none⟩) t352.length co34] (0, 0) _ rfl mc3 Try.underlying26 rfl kr_) rfl ?_
 exact ⟨_, mc332, Kd.Q_of_R (by (with_reducible repeat (first | apply Kd.R_alloc | apply Kd.R_drewN | apply Kd.R_drew)); exact Kd.R_mono (Kd.R_far (p := ⟨gb349, 2, none⟩) (Kd.R_far (p := ⟨gb349, 1, none⟩) (Kd.R_far (p := ⟨gb349, 0, none⟩) (Kd.R_types HO354.out BK349.out (by decide)) (fun _ hk => hk.2) (.int .i64 t350)) (fun _ hk => hk.2) (.int .i64 t351)) (fun _ hk => hk.2) (.slice (some ⟨go27, 0, none⟩) t352.length co34)) (fun _ hk => trivial)), mc110, mc119, mc143⟩

/-! ### spec_l1Cur_full: function 42 -/
def spec_l1Cur_full.l0 : Nat → Int → List Int → Int → Int → Int → Int → List Int → Option (Int × Int × List Int × Int × Int)
 | 0, _, _, _, _, _, _, _ => none
 | k + 1, x4, x1000, x1001, x1002, x389000, x389001, x389002 => if x4 < (x389002.length : Int) then (if 0 ≤ x4 then (if (rd x389002 x4) = (-9999) then ((spec_l1Cur_one.f x1000 x1001 x1002 30).bind fun bt390 => (if bt390.1 = true then (spec_l1Cur_full.l0 k (wrap64 (x4 + 1)) x1000 bt390.2.1 bt390.2.2 x389000 x389001 x389002) else ((spec_l1Cur_pick.f x1000 bt390.2.1 bt390.2.2 90).bind fun bt393 => (spec_l1Cur_full.l0 k (wrap64 (x4 + 1)) x1000 bt393.2.1 bt393.2.2 x389000 x389001 (x389002.set (x4 : Int).toNat (wrap64 (bt393.1 - 40))))))) else (spec_l1Cur_full.l0 k (wrap64 (x4 + 1)) x1000 x1001 x1002 x389000 x389001 x389002)) else (none)) else (some (x389000, x389001, x389002, x1001, x1002))
def spec_l1Cur_full.f (k : Nat) (s0_0 : List Int) (s0_1 : Int) (s0_2 : Int) : Option (Int × Int × List Int × Int × Int) := (spec_l1Cur_anyField.f k s0_0 s0_1 s0_2).bind fun bt381 => (spec_l1Cur_full.l0 k 0 s0_0 bt381.2.2.2.1 bt381.2.2.2.2 bt381.1 bt381.2.1 bt381.2.2.1)
def spec_l1Cur_full.T6 : Bool × List (List Nat × List Nat) := (true, [([], []), ([0], [0]), ([], []), ([], []), ([3], [3]), ([4], [4]), ([1, 2, 0, 1, 2, 3, 4, 5], [1, 2]), ([6, 5, 4, 0, 1, 2, 3, 4, 5], [5, 6])])
def spec_l1Cur_full.B6 : List Nat := [0, 1, 0, 0, 8, 24, 63, 127]
theorem spec_l1Cur_full.tab6 : rtab .any (opsOf Try.f42 6) = spec_l1Cur_full.T6 := by kernel_rfl
theorem spec_l1Cur_full.bits6 : waitsOk spec_l1Cur_full.T6.2 spec_l1Cur_full.B6 = true := by kernel_rfl
set_option maxHeartbeats 8000000 in
set_option maxRecDepth 100000 in
theorem spec_l1Cur_full.calls (k : Nat) (g : Nat) (s0_0 : List Int) (s0_1 : Int) (s0_2 : Int) (r1 : Int) (r2 : Int) (r3 : List Int) (r4 : Int) (r5 : Int) (w0 w : World) (hI : IsS61 w0 w g s0_0 s0_1 s0_2) (hB : Below w0.heap.size w0 w) (h : spec_l1Cur_full.f k s0_0 s0_1 s0_2 = some (r1, r2, r3, r4, r5)) :
  Calls Try.prog 42 #[.pointer (some ⟨g, 0, none⟩)] w fun e w' => ∃ v2_ : Value, e = .returned (.agg #[.int .i64 r1, .int .i64 r2, v2_]) ∧ Kd.Q (Kd.int .i64) 3 w' w.heap.size (fun _ => True) v2_ r3 ∧ IsS61 w0 w' g s0_0 r4 r5 ∧ Below w0.heap.size w0 w' ∧ KeepBut w w' g none := by
 have hu26 := Try.underlying26
 have HI0 := A_ hI
 have HK := A_ (KeepBut.refl w g none)
 have HL := A_ hB.size
 clear hI
 have HW0 := A_ hB.size
 have HB := A_ hB
 clear hB
 have H : ((spec_l1Cur_anyField.f k s0_0 s0_1 s0_2).bind fun bt381 => (spec_l1Cur_full.l0 k 0 s0_0 bt381.2.2.2.1 bt381.2.2.2.2 bt381.1 bt381.2.1 bt381.2.2.1)) = some (r1, r2, r3, r4, r5) := h
 clear h
 obtain ⟨⟨t381, t382, t383, t386, t387⟩, A20, H⟩ := oB_ H
 have A2 := A_ A20
 clear A20
 have H' := A_ H
 clear H
 go_enter Try.func42, Try.ntmps42
 go_wp2_with (first | ((with_reducible refine gd_ 2 rfl ?_); refine box_event rfl (N := 2) rfl (cs := #[.int .i64 0, .int .i64 0, .slice none 0 0]) (t := 26) mc353 ?_; intro gb380 hg w3 hbox hb; replace HB := A_ (below_step mc202 hb); have BK380 := A_ (hbox); have GW380 := A_ ((mc145 : w.heap.size ≤ gb380)); have GE380 := A_ ((Nat.le_trans HW0.out (mc145 : w.heap.size ≤ gb380) : w0.heap.size ≤ gb380)); replace HK := A_ (KeepBut.trans mc245 (KeepBut.of_below hb g none) (.inl rfl)); have NB0_380 := A_ ((mc100 : g ≠ gb380)); have NB380_0 := A_ ((mc101 : gb380 ≠ g)); replace HI0 := A_ (IsS61.below mc207 hb); clear hb hbox hg) | ((with_reducible refine gc_ 75 rfl ?_); refine goesL_ (some 6) rfl rfl Try.func75 kr_ rfl #[.pointer (some ⟨g, 0, none⟩)] rfl mc247 ?_; (with_reducible refine (spec_l1Cur_anyField.calls k g s0_0 s0_1 s0_2 t381 t382 t383 t386 t387 w0 _ ?side1 ?side2 A2.out).mono ?_); (case side1 => repeat (first | (with_reducible first | exact HI0.out | apply IsS61.alloc | apply IsS61.drewN | apply IsS61.drew | apply IsS61.set_1 | apply IsS61.set_2 | refine IsS61.far ?_ NB0_380.out _) | exact HI0.out)); (case side2 => repeat (first | (with_reducible first | exact HB.out | apply below_alloc | apply pw_below_drewN | apply below_drew1 | refine below_set ?_ (IsS61.ge HI0.out) | refine below_set ?_ GE380.out) | exact HB.out)); rintro e w4 ⟨v384, rfl, ho0, hi, hb, hk⟩; refine ⟨_, rfl, ?_⟩; replace BK380 := A_ (KeepBut.blk hk (g' := gb380) (o := .cells #[.int .i64 0, .int .i64 0, .slice none 0 0] 26 (0, 0)) mc301 NB380_0.out (by simp)); have HO385 := A_ (Kd.Q_lower ho0 (keep_size (w := w) (g := g) (row := none) mc198)); replace HK := A_ (KeepBut.trans mc198 hk (.inl rfl)); replace HB := A_ (hb); replace HI0 := A_ (hi); (try clear hb); (try clear ho0)) | ((with_reducible refine gd_ 3 rfl ?_); refine box_event rfl (N := 3) rfl (cs := #[.int .i64 0, .int .i64 0, .slice none 0 0]) (t := 26) mc353 ?_; intro gb388 hg w5 hbox hb; replace HO385 := A_ (Kd.Q_below (by (with_reducible repeat (first | apply Kd.Q_alloc | apply Kd.Q_drewN | apply Kd.Q_drew)); exact HO385.out) hb); replace HB := A_ (below_step (by repeat (first | (with_reducible first | exact HB.out | apply below_alloc | apply pw_below_drewN | apply below_drew1 | refine below_set ?_ (IsS61.ge HI0.out) | refine below_set ?_ GE380.out) | exact HB.out)) hb); have BK388 := A_ (hbox); have GW388 := A_ ((mc108 : w.heap.size ≤ gb388)); have GE388 := A_ ((Nat.le_trans HW0.out (mc108 : w.heap.size ≤ gb388) : w0.heap.size ≤ gb388)); replace HK := A_ (KeepBut.trans mc198 (KeepBut.of_below hb g none) (.inl rfl)); have NB380_388 := A_ ((by rw [hg]; exact Nat.ne_of_lt (blk_lt mc301) : gb380 ≠ gb388)); have NB388_380 := A_ ((by rw [hg]; exact Nat.ne_of_gt (blk_lt mc301) : gb388 ≠ gb380)); replace BK380 := A_ (blk_below mc301 hb); have NB0_388 := A_ ((by rw [hg]; exact Nat.ne_of_lt (IsS61.lt (show IsS61 w0 _ g s0_0 t386 t387 from by repeat (first | (with_reducible first | exact HI0.out | apply IsS61.alloc | apply IsS61.drewN | apply IsS61.drew | apply IsS61.set_1 | apply IsS61.set_2 | refine IsS61.far ?_ NB0_380.out _) | exact HI0.out))) : g ≠ gb388)); have NB388_0 := A_ ((by rw [hg]; exact Nat.ne_of_gt (IsS61.lt (show IsS61 w0 _ g s0_0 t386 t387 from by repeat (first | (with_reducible first | exact HI0.out | apply IsS61.alloc | apply IsS61.drewN | apply IsS61.drew | apply IsS61.set_1 | apply IsS61.set_2 | refine IsS61.far ?_ NB0_380.out _) | exact HI0.out))) : gb388 ≠ g)); replace HI0 := A_ (IsS61.below (by repeat (first | (with_reducible first | exact HI0.out | apply IsS61.alloc | apply IsS61.drewN | apply IsS61.drew | apply IsS61.set_1 | apply IsS61.set_2 | refine IsS61.far ?_ NB0_380.out _) | exact HI0.out)) hb); clear hb hbox hg; have hnb6 := NB388_380.out; have hnc6 := NB380_388.out; have hnb7 := NB388_0.out; have hnc7 := NB0_388.out; have hcz8_0 : w5.cell? ⟨gb388, 0, none⟩ = some (.int .i64 0) := bc_ BK388 0 rfl; have hcz8_1 : w5.cell? ⟨gb388, 1, none⟩ = some (.int .i64 0) := bc_ BK388 1 rfl; have hcz8_2 : w5.cell? ⟨gb388, 2, none⟩ = some (.slice none 0 0) := bc_ BK388 2 rfl; have hfz8_0 := blk_frozen BK388.out 0; have hfz8_1 := blk_frozen BK388.out 1; have hfz8_2 := blk_frozen BK388.out 2; obtain ⟨Ao9, co9, eo9, _⟩ := Kd.Q_slice HO385.out; subst eo9))
 go_loopg [4] k (fun kq v4 w' => ∃ (x4_1 : Int) (x1001_1 : Int) (x1002_1 : Int) (x389002_1 : List Int) (u389002 : Value), v4 = .int .i64 x4_1 ∧ Aside0 (spec_l1Cur_full.l0 kq x4_1 s0_0 x1001_1 x1002_1 t381 t382 x389002_1 = some (r1, r2, r3, r4, r5)) ∧ Aside0 (kq ≤ k) ∧ Aside0 (Kd.Q (Kd.int .i64) 3 w' w.heap.size (fun _ => True) u389002 x389002_1) ∧ Aside0 (w'.heap[gb380]? = some (.cells #[.int .i64 0, .int .i64 0, (.slice none 0 0)] 26 (0, 0))) ∧ Aside0 (w'.heap[gb388]? = some (.cells #[.int .i64 t381, .int .i64 t382, u389002] 26 (0, 0))) ∧ Aside0 (IsS61 w0 w' g s0_0 x1001_1 x1002_1) ∧ Aside0 (KeepBut w w' g none) ∧ Aside0 (Below w0.heap.size w0 w'))
 case atStart => exact ⟨(0), (t386), (t387), (t383), (.slice Ao9 t383.length co9), mc352, H', ⟨Nat.le_refl _⟩, ⟨by (with_reducible repeat (first | apply Kd.Q_alloc | apply Kd.Q_drewN | apply Kd.Q_drew)); exact Kd.Q_mono (Kd.Q_far (p := ⟨gb388, 2, none⟩) (Kd.Q_far (p := ⟨gb388, 1, none⟩) (Kd.Q_far (p := ⟨gb388, 0, none⟩) (Kd.Q_types HO385.out BK388.out (by decide)) (fun _ hk => hk.2) (.int .i64 t381)) (fun _ hk => hk.2) (.int .i64 t382)) (fun _ hk => hk.2) (.slice Ao9 t383.length co9)) (fun _ hk => trivial)⟩, ⟨by (with_reducible repeat (first | refine blk_drewN ?_ _ | refine blk_drew ?_ | refine blk_alloc ?_ _)); refine blk_far ?_ NB380_388.out _; (with_reducible repeat (first | refine blk_drewN ?_ _ | refine blk_drew ?_ | refine blk_alloc ?_ _)); refine blk_far ?_ NB380_388.out _; (with_reducible repeat (first | refine blk_drewN ?_ _ | refine blk_drew ?_ | refine blk_alloc ?_ _)); refine blk_far ?_ NB380_388.out _; (with_reducible repeat (first | refine blk_drewN ?_ _ | refine blk_drew ?_ | refine blk_alloc ?_ _)); exact BK380.out⟩, ⟨by (with_reducible repeat (first | refine blk_drewN ?_ _ | refine blk_drew ?_ | refine blk_alloc ?_ _)); refine blk_put (cs := #[.int .i64 t381, .int .i64 t382, .slice none 0 0]) ?_ 2 _ rfl; (with_reducible repeat (first | refine blk_drewN ?_ _ | refine blk_drew ?_ | refine blk_alloc ?_ _)); refine blk_put (cs := #[.int .i64 t381, .int .i64 0, .slice none 0 0]) ?_ 1 _ rfl; (with_reducible repeat (first | refine blk_drewN ?_ _ | refine blk_drew ?_ | refine blk_alloc ?_ _)); refine blk_put (cs := #[.int .i64 0, .int .i64 0, .slice none 0 0]) ?_ 0 _ rfl; (with_reducible repeat (first | refine blk_drewN ?_ _ | refine blk_drew ?_ | refine blk_alloc ?_ _)); exact BK388.out⟩, ⟨mc113⟩, ⟨mc144⟩, ⟨mc120⟩⟩
 case round =>
  clear H'
  try clear p2
  obtain ⟨x4_1, x1001_1, x1002_1, x389002_1, u389002, rfl, HA, HK1, HO_389002, BK380, BK388, HI0, HK, HB⟩ := hrel
  cases gk with
  | zero => exact absurd HA.out (by simp [spec_l1Cur_full.l0])
  | succ k1 =>
   have H := HA.out
   clear HA
   simp only [spec_l1Cur_full.l0] at H
   by_cases c10 : x4_1 < (x389002_1.length : Int)
   rotate_left
   ·
    rw [if_neg c10] at H
    have c10b0 : decide (x4_1 < (x389002_1.length : Int)) = false := decide_eq_false c10
    clear c10
    simp only [Option.some.injEq, Prod.mk.injEq] at H
    obtain ⟨rfl, rfl, rfl, rfl, rfl⟩ := H
    have hnb34 := NB388_380.out
    have hnc34 := NB380_388.out
    have hnb35 := NB388_0.out
    have hnc35 := NB0_388.out
    have hcz36_0 : wr.cell? ⟨gb388, 0, none⟩ = some (.int .i64 t381) := bc_ BK388 0 rfl
    have hcz36_1 : wr.cell? ⟨gb388, 1, none⟩ = some (.int .i64 t382) := bc_ BK388 1 rfl
    have hcz36_2 : wr.cell? ⟨gb388, 2, none⟩ = some (u389002) := bc_ BK388 2 rfl
    have hfz36_0 := blk_frozen BK388.out 0
    have hfz36_1 := blk_frozen BK388.out 1
    have hfz36_2 := blk_frozen BK388.out 2
    obtain ⟨Ao37, co37, eo37, _⟩ := Kd.Q_slice HO_389002.out
    subst eo37
    have hnb38 := NB380_0.out
    have hnc38 := NB0_380.out
    have hcz39_0 : wr.cell? ⟨gb380, 0, none⟩ = some (.int .i64 0) := bc_ BK380 0 rfl
    have hcz39_1 : wr.cell? ⟨gb380, 1, none⟩ = some (.int .i64 0) := bc_ BK380 1 rfl
    have hcz39_2 : wr.cell? ⟨gb380, 2, none⟩ = some (.slice none 0 0) := bc_ BK380 2 rfl
    have hfz39_0 := blk_frozen BK380.out 0
    have hfz39_1 := blk_frozen BK380.out 1
    have hfz39_2 := blk_frozen BK380.out 2
    go_wp2
    refine bodyPost_ret (results_cell_row rfl _ _ gb380 26 #[.int .i64 t381, .int .i64 t382, .slice Ao37 x389002_1.length co37] (0, 0) _ rfl (by (with_reducible repeat (first | refine blk_drewN ?_ _ | refine blk_drew ?_ | refine blk_alloc ?_ _)); refine blk_put (cs := #[.int .i64 t381, .int .i64 t382, .slice none 0 0]) ?_ 2 _ rfl; (with_reducible repeat (first | refine blk_drewN ?_ _ | refine blk_drew ?_ | refine blk_alloc ?_ _)); refine blk_put (cs := #[.int .i64 t381, .int .i64 0, .slice none 0 0]) ?_ 1 _ rfl; (with_reducible repeat (first | refine blk_drewN ?_ _ | refine blk_drew ?_ | refine blk_alloc ?_ _)); refine blk_put (cs := #[.int .i64 0, .int .i64 0, .slice none 0 0]) ?_ 0 _ rfl; (with_reducible repeat (first | refine blk_drewN ?_ _ | refine blk_drew ?_ | refine blk_alloc ?_ _)); exact BK380.out) Try.underlying26 rfl kr_) rfl ?_
    exact ⟨_, mc332, by (with_reducible repeat (first | apply Kd.Q_alloc | apply Kd.Q_drewN | apply Kd.Q_drew)); exact Kd.Q_mono (Kd.Q_far (p := ⟨gb380, 2, none⟩) (Kd.Q_far (p := ⟨gb380, 1, none⟩) (Kd.Q_far (p := ⟨gb380, 0, none⟩) (Kd.Q_types HO_389002.out BK380.out (by decide)) (fun _ hk => hk.2) (.int .i64 t381)) (fun _ hk => hk.2) (.int .i64 t382)) (fun _ hk => hk.2) (.slice Ao37 x389002_1.length co37)) (fun _ hk => trivial), mc113, mc120, mc144⟩
   rw [if_pos c10] at H
   have c10b0 : decide (x4_1 < (x389002_1.length : Int)) = true := decide_eq_true c10
   clear c10
   by_cases c11 : 0 ≤ x4_1
   rotate_left
   ·
    rw [if_neg c11] at H
    exact absurd H (by simp)
   rw [if_pos c11] at H
   have c11b0 : decide (0 ≤ x4_1) = true := decide_eq_true c11
   clear c11
   by_cases c12 : (rd x389002_1 x4_1) = (-9999)
   rotate_left
   ·
    rw [if_neg c12] at H
    have c12b0 : ((rd x389002_1 x4_1) == (-9999)) = false := beq_eq_false_iff_ne.mpr c12
    have c12b1 : ((rd x389002_1 x4_1) != (-9999)) = true := bne_iff_ne.mpr c12
    have H' := A_ H
    clear H
    have hnb30 := NB388_380.out
    have hnc30 := NB380_388.out
    have hnb31 := NB388_0.out
    have hnc31 := NB0_388.out
    have hcz32_0 : wr.cell? ⟨gb388, 0, none⟩ = some (.int .i64 t381) := bc_ BK388 0 rfl
    have hcz32_1 : wr.cell? ⟨gb388, 1, none⟩ = some (.int .i64 t382) := bc_ BK388 1 rfl
    have hcz32_2 : wr.cell? ⟨gb388, 2, none⟩ = some (u389002) := bc_ BK388 2 rfl
    have hfz32_0 := blk_frozen BK388.out 0
    have hfz32_1 := blk_frozen BK388.out 1
    have hfz32_2 := blk_frozen BK388.out 2
    obtain ⟨Ao33, co33, eo33, _⟩ := Kd.Q_slice HO_389002.out
    subst eo33
    have p389 : 0 ≤ (x4_1 : Int) := of_decide_eq_true mc341
    have q389 : x4_1 < (x389002_1.length : Int) := of_decide_eq_true mc341
    obtain ⟨ad389, e389, hx389_0⟩ := Kd.at_int (Kd.Q_reads' HO_389002.out).2.2 x4_1 p389 q389
    cases e389
    replace p389 := eq_true p389
    replace q389 := eq_true q389
    go_wp2
    go_roundg k1
    case measure => have := HK1.out; omega
    case rel => exact ⟨(wrap64 (x4_1 + 1)), (x1001_1), (x1002_1), (x389002_1), (.slice (some ad389) x389002_1.length co33), mc352, H', ⟨mc356⟩, ⟨mc311⟩, ⟨mc301⟩, ⟨mc302⟩, ⟨mc113⟩, ⟨mc144⟩, ⟨mc120⟩⟩
   rw [if_pos c12] at H
   have c12b0 : ((rd x389002_1 x4_1) == (-9999)) = true := beq_iff_eq.mpr c12
   have c12b1 : ((rd x389002_1 x4_1) != (-9999)) = false := bne_eq_false_iff_eq.mpr c12
   clear c12
   obtain ⟨⟨t390, t391, t392⟩, A130, H⟩ := oB_ H
   have A13 := A_ A130
   clear A130
   by_cases c14 : t390 = true
   ·
    subst c14
    rw [if_pos rfl] at H
    have H' := A_ H
    clear H
    have hnb15 := NB388_380.out
    have hnc15 := NB380_388.out
    have hnb16 := NB388_0.out
    have hnc16 := NB0_388.out
    have hcz17_0 : wr.cell? ⟨gb388, 0, none⟩ = some (.int .i64 t381) := bc_ BK388 0 rfl
    have hcz17_1 : wr.cell? ⟨gb388, 1, none⟩ = some (.int .i64 t382) := bc_ BK388 1 rfl
    have hcz17_2 : wr.cell? ⟨gb388, 2, none⟩ = some (u389002) := bc_ BK388 2 rfl
    have hfz17_0 := blk_frozen BK388.out 0
    have hfz17_1 := blk_frozen BK388.out 1
    have hfz17_2 := blk_frozen BK388.out 2
    obtain ⟨Ao18, co18, eo18, _⟩ := Kd.Q_slice HO_389002.out
    subst eo18
    have p389 : 0 ≤ (x4_1 : Int) := of_decide_eq_true mc341
    have q389 : x4_1 < (x389002_1.length : Int) := of_decide_eq_true mc341
    obtain ⟨ad389, e389, hx389_0⟩ := Kd.at_int (Kd.Q_reads' HO_389002.out).2.2 x4_1 p389 q389
    cases e389
    replace p389 := eq_true p389
    replace q389 := eq_true q389
    go_wp2_with (first | (go_at_call 78; (with_reducible refine (spec_l1Cur_one.calls g s0_0 x1001_1 x1002_1 30 true t391 t392 w0 _ ?side1 ?side2 A13.out).mono ?_); (case side1 => exact mc113); (case side2 => exact mc120); rintro e w19 ⟨rfl, hi, hb, hk⟩; replace HO_389002 := A_ (Kd.Q_mono (Kd.Q_keep (IsS61.apartQ (show IsS61 w0 _ g s0_0 x1001_1 x1002_1 from by repeat (first | (with_reducible first | exact HI0.out | apply IsS61.alloc | apply IsS61.drewN | apply IsS61.drew | apply IsS61.set_1 | apply IsS61.set_2 | refine IsS61.far ?_ NB0_380.out _ | refine IsS61.far ?_ NB0_388.out _) | exact HI0.out)) mc311 (by decide)) hk (fun _ h => h.2)) (fun _ h => h.1)); replace BK380 := A_ (KeepBut.blk hk (g' := gb380) (o := .cells #[.int .i64 0, .int .i64 0, .slice none 0 0] 26 (0, 0)) mc301 NB380_0.out (by simp)); replace BK388 := A_ (KeepBut.blk hk (g' := gb388) (o := .cells #[.int .i64 t381, .int .i64 t382, .slice (some ad389) x389002_1.length co18] 26 (0, 0)) mc302 NB388_0.out (by simp)); replace HK := A_ (KeepBut.trans mc144 hk (.inl rfl)); replace HB := A_ (hb); replace HI0 := A_ (hi); (try clear hb)))
    go_roundg k1
    case measure => have := HK1.out; omega
    case rel => exact ⟨(wrap64 (x4_1 + 1)), (t391), (t392), (x389002_1), (.slice (some ad389) x389002_1.length co18), mc352, H', ⟨mc356⟩, ⟨mc311⟩, ⟨mc301⟩, ⟨mc302⟩, ⟨mc113⟩, ⟨mc144⟩, ⟨mc120⟩⟩
   replace c14 := Bool.eq_false_iff.mpr c14
   subst c14
   rw [if_neg (show ¬ (false = true) by decide)] at H
   obtain ⟨⟨t393, t394, t395⟩, A200, H⟩ := oB_ H
   have A20 := A_ A200
   clear A200
   obtain ⟨y396, hy396⟩ : ∃ y_ : List Int, y_ = (x389002_1.set (x4_1 : Int).toNat (wrap64 (t393 - 40))) := ⟨_, rfl⟩
   replace H : (spec_l1Cur_full.l0 k1 (wrap64 (x4_1 + 1)) s0_0 t394 t395 t381 t382 y396) = some (r1, r2, r3, r4, r5) := by first | (rw [hy396]; with_reducible exact H) | (have H2_ := (Option.bind_some _ _).symm.trans H; rw [hy396]; with_reducible exact H2_) | (have H2_ := (Option.bind_some _ _).symm.trans H; with_reducible exact H2_) | with_reducible exact H | (rw [hy396]; exact H) | exact H
   have Ny396 := A_ hy396
   clear hy396
   have H' := A_ H
   clear H
   have hnb22 := NB388_380.out
   have hnc22 := NB380_388.out
   have hnb23 := NB388_0.out
   have hnc23 := NB0_388.out
   have hcz24_0 : wr.cell? ⟨gb388, 0, none⟩ = some (.int .i64 t381) := bc_ BK388 0 rfl
   have hcz24_1 : wr.cell? ⟨gb388, 1, none⟩ = some (.int .i64 t382) := bc_ BK388 1 rfl
   have hcz24_2 : wr.cell? ⟨gb388, 2, none⟩ = some (u389002) := bc_ BK388 2 rfl
   have hfz24_0 := blk_frozen BK388.out 0
   have hfz24_1 := blk_frozen BK388.out 1
   have hfz24_2 := blk_frozen BK388.out 2
   obtain ⟨Ao25, co25, eo25, _⟩ := Kd.Q_slice HO_389002.out
   subst eo25
   have p389 : 0 ≤ (x4_1 : Int) := of_decide_eq_true mc341
   have q389 : x4_1 < (x389002_1.length : Int) := of_decide_eq_true mc341
   obtain ⟨ad389, e389, hx389_0⟩ := Kd.at_int (Kd.Q_reads' HO_389002.out).2.2 x4_1 p389 q389
   cases e389
   replace p389 := eq_true p389
   replace q389 := eq_true q389
   try go_wp2_with (first | (go_at_call 78; (with_reducible refine (spec_l1Cur_one.calls g s0_0 x1001_1 x1002_1 30 false t391 t392 w0 _ ?side1 ?side2 A13.out).mono ?_); (case side1 => exact mc113); (case side2 => exact mc120); rintro e w26 ⟨rfl, hi, hb, hk⟩; replace HO_389002 := A_ (Kd.Q_mono (Kd.Q_keep (IsS61.apartQ (show IsS61 w0 _ g s0_0 x1001_1 x1002_1 from by repeat (first | (with_reducible first | exact HI0.out | apply IsS61.alloc | apply IsS61.drewN | apply IsS61.drew | apply IsS61.set_1 | apply IsS61.set_2 | refine IsS61.far ?_ NB0_380.out _ | refine IsS61.far ?_ NB0_388.out _) | exact HI0.out)) mc311 (by decide)) hk (fun _ h => h.2)) (fun _ h => h.1)); replace BK380 := A_ (KeepBut.blk hk (g' := gb380) (o := .cells #[.int .i64 0, .int .i64 0, .slice none 0 0] 26 (0, 0)) mc301 NB380_0.out (by simp)); replace BK388 := A_ (KeepBut.blk hk (g' := gb388) (o := .cells #[.int .i64 t381, .int .i64 t382, .slice (some ad389) x389002_1.length co25] 26 (0, 0)) mc302 NB388_0.out (by simp)); replace HK := A_ (KeepBut.trans mc144 hk (.inl rfl)); replace HB := A_ (hb); replace HI0 := A_ (hi); (try clear hb)))
   replace HO_389002 := A_ (Kd.Q_drew HO_389002.out)
   replace BK380 := A_ (blk_drew BK380.out)
   replace BK388 := A_ (blk_drew BK388.out)
   replace HI0 := A_ (IsS61.drew HI0.out)
   replace HK := A_ (keep_drew HK.out)
   replace HB := A_ (below_drew1 HB.out)
   refine start_ (n := 8) (S := fun w' => w'.cell? ⟨gb388, 0, none⟩ = some (.int .i64 t381) ∧ w'.cell? ⟨gb388, 1, none⟩ = some (.int .i64 t382) ∧ w'.cell? ⟨gb388, 2, none⟩ = some (.slice (some ad389) x389002_1.length co25)) (ds := [7]) #[false, false, false, false, false, false, false, false] kr_ rfl rfl ⟨bc_ BK388 0 rfl, bc_ BK388 1 rfl, bc_ BK388 2 rfl⟩ (fun hHeld => ?_); refine with_tabW spec_l1Cur_full.tab6 spec_l1Cur_full.bits6 (fun HT_ HW_ => ?_)
   generalize w26.drew = w27 at HO_389002 BK380 BK388 HI0 HK HB hHeld ⊢
   refine pure_ (i := 0) (N := some 25) #[true, false, false, false, false, false, false, false] rfl rfl (any_of HT_.out kr_) (fun _ _ _ h => h) (Or.inl ⟨by rfl, mc354⟩) mc312 ?_
   refine pure_ (i := 2) (N := some 27) #[true, false, true, false, false, false, false, false] rfl rfl (any_of HT_.out kr_) (fun _ _ _ h => h) (Or.inl ⟨by rfl, mc354⟩) mc312 ?_
   refine pure_ (i := 3) (N := some 28) #[true, false, true, true, false, false, false, false] rfl rfl (any_of HT_.out kr_) (fun _ _ _ h => h) (Or.inl ⟨by rfl, mc354⟩) mc312 ?_
   refine take_ (i := 1) (N := some 26) #[true, true, true, true, false, false, false, false] rfl rfl (take_ofW HT_.out HW_.out kr_) (fun _ _ _ h => h) (Or.inl ⟨by rfl, mc340⟩) hHeld mc312 ?_
   refine one_ (i := 4) (N := some 29) #[true, true, true, true, true, false, false, false] rfl rfl (one_of HT_.out kr_) (by decide) (fun K hK => ?_)
   refine goes_ Try.func79 kr_ rfl #[.pointer (some ⟨g, 0, none⟩), .int .i64 90] (by rfl) rfl rfl mc247 ?_
   with_reducible refine (spec_l1Cur_pick.calls g s0_0 t391 t392 90 t393 t394 t395 w0 _ ?side1 ?side2 A20.out).mono ?_
   (case side1 => exact mc113)
   (case side2 => exact mc120)
   rintro e w28 ⟨rfl, hi, hb, hk⟩
   refine ⟨_, rfl, ?_⟩
   replace HO_389002 := A_ (Kd.Q_mono (Kd.Q_keep (IsS61.apartQ (show IsS61 w0 _ g s0_0 t391 t392 from by repeat (first | (with_reducible first | exact HI0.out | apply IsS61.alloc | apply IsS61.drewN | apply IsS61.drew | apply IsS61.set_1 | apply IsS61.set_2 | refine IsS61.far ?_ NB0_380.out _ | refine IsS61.far ?_ NB0_388.out _) | exact HI0.out)) mc311 (by decide)) hk (fun _ h => h.2)) (fun _ h => h.1))
   replace BK380 := A_ (KeepBut.blk hk (g' := gb380) (o := .cells #[.int .i64 0, .int .i64 0, .slice none 0 0] 26 (0, 0)) mc301 NB380_0.out (by simp))
   replace BK388 := A_ (KeepBut.blk hk (g' := gb388) (o := .cells #[.int .i64 t381, .int .i64 t382, .slice (some ad389) x389002_1.length co25] 26 (0, 0)) mc302 NB388_0.out (by simp))
   replace HK := A_ (KeepBut.trans mc144 hk (.inl rfl))
   replace HB := A_ (hb)
   replace HI0 := A_ (hi)
   (try clear hb)
   have p21 : 0 ≤ (x4_1 : Int) := of_decide_eq_true mc341
   have q21 : (x4_1 : Int) < ((x389002_1.length : Int) : Int) := of_decide_eq_true mc341
   obtain ⟨go21, oo21, co21, eo21, gb21, gl21, cl21, HG21⟩ := Kd.Q_form HO_389002.out (by omega)
   (first | cases eo21 | (injection eo21 with ea_ en_ ec_; (first | subst ea_ | (injection ea_ with ea_; subst ea_)); subst ec_; clear en_))
   have GB21 := A_ gb21
   have GG21 := A_ HG21
   clear gb21 gl21 HG21
   (first | simp only [add_at] at hx389_0 | skip)
   obtain ⟨hx21_0, hf21_0⟩ := Kd.Q_cell 0 HO_389002.out (x4_1 : Int) p21 q21
   replace p21 := eq_true p21
   replace q21 := eq_true q21
   have HN0_go21 := A_ (show g ≠ go21 from by have h_ := IsS61.own_neQ HI0.out HO_389002.out (by decide); intro e_; exact h_ mc357)
   have HP29 := (Kd.Q_putg HO_389002.out (x4_1 : Int) (of_decide_eq_true mc341) (by have h_ : (x4_1 : Int) < ((x389002_1.length : Int) : Int) := of_decide_eq_true mc341; first | exact h_ | (have e_ := (Kd.Q_reads' HO_389002.out).1; omega) | simpa using h_) (wrap64 (t393 - 40))).1
   rw [← Ny396.out] at HP29
   have HQ29 := A_ HP29
   clear HP29
   refine hK.out _ _ ⟨bc_ BK388 0 rfl, bc_ BK388 1 rfl, bc_ BK388 2 rfl⟩ (fun hHeld => ?_)
   clear hK K
   refine norm_ (by show Act.put _ (some 29) _ = _; simp only [Act.put, List.setIfInBounds_toArray, List.set_cons_zero, List.set_cons_succ, i64_w, i32_w]; rfl) ?_
   refine pure_ (i := 5) (N := some 30) #[true, true, true, true, true, true, false, false] rfl rfl (any_of HT_.out kr_) (fun _ _ _ h => h) (Or.inl ⟨by rfl, mc354⟩) mc312 ?_
   refine pure_ (i := 6) (N := some 31) #[true, true, true, true, true, true, true, false] rfl rfl (any_of HT_.out kr_) (fun _ _ _ h => h) (Or.inl ⟨by rfl, mc354⟩) mc312 ?_
   refine last_ (i := 7) (N := none) #[true, true, true, true, true, true, true, true] rfl rfl (one_of HT_.out kr_) (by decide) (fun K hK => ?_)
   refine skip_ (w1 := ?_) (by rfl) rfl ?_ ?_
   rotate_left
   ·
    go_simp
    rfl
   refine hK.out _ _ ?_
   clear hK K
   refine done_ (done_of HT_.out kr_) ?_
   try go_wp2
   go_roundg k1
   case measure => have := HK1.out; omega
   case rel => exact ⟨(wrap64 (x4_1 + 1)), (t394), (t395), (y396), (.slice (some ⟨go21, oo21, none⟩) x389002_1.length co25), mc352, H', ⟨mc356⟩, ⟨by (with_reducible repeat (first | apply Kd.Q_alloc | apply Kd.Q_drewN | apply Kd.Q_drew)); exact HQ29.out⟩, ⟨by (with_reducible repeat (first | refine blk_drewN ?_ _ | refine blk_drew ?_ | refine blk_alloc ?_ _)); refine blk_far ?_ (by have h_ := Kd.Q_ne HO_389002.out BK380.out (by decide); intro e_; exact h_ mc357) _; (with_reducible repeat (first | refine blk_drewN ?_ _ | refine blk_drew ?_ | refine blk_alloc ?_ _)); exact BK380.out⟩, ⟨by (with_reducible repeat (first | refine blk_drewN ?_ _ | refine blk_drew ?_ | refine blk_alloc ?_ _)); refine blk_far ?_ (by have h_ := Kd.Q_ne HO_389002.out BK388.out (by decide); intro e_; exact h_ mc357) _; (with_reducible repeat (first | refine blk_drewN ?_ _ | refine blk_drew ?_ | refine blk_alloc ?_ _)); exact BK388.out⟩, ⟨by repeat (first | (with_reducible first | exact HI0.out | apply IsS61.alloc | apply IsS61.drewN | apply IsS61.drew | apply IsS61.set_1 | apply IsS61.set_2 | refine IsS61.far ?_ HN0_go21.out _ | refine IsS61.far ?_ NB0_380.out _ | refine IsS61.far ?_ NB0_388.out _) | exact HI0.out)⟩, ⟨by repeat (first | (with_reducible first | exact HK.out | apply KeepBut.set_ | apply keep_drewN | apply keep_drew | apply keep_alloc | refine keep_far ?_ GB21.out _ | refine keep_far ?_ GW380.out _ | refine keep_far ?_ GW388.out _) | exact HK.out)⟩, ⟨by repeat (first | (with_reducible first | exact HB.out | apply below_alloc | apply pw_below_drewN | apply below_drew1 | refine below_set ?_ (Nat.le_trans HL.out GB21.out) | refine below_set ?_ (IsS61.ge HI0.out) | refine below_set ?_ GE380.out | refine below_set ?_ GE388.out) | exact HB.out)⟩⟩

end Go.Proofs.Ytdmkbfjipgaloaa.P
