-- Made by pp.py of this session out of the kit's print and of contracts proved by hand; Lean checks it.
import Derived.Test.YtlnlabndaikbnaaGreatDoorMc
import Derived.Test.YtlnlabndaikbnaaGreatDoorPx0
import Derived.Test.YtlnlabndaikbnaaGreatDoorPx3
import Derived.Test.YtlnlabndaikbnaaGreatDoorPx11
import Derived.Test.YtlnlabndaikbnaaGreatDoorPx17
import Derived.Test.YtlnlabndaikbnaaGreatDoorPx24
namespace Go.Proofs.YtlnlabndaikbnaaGreatDoor.P
open Go.RowKit Go.Proofs.YtlnlabndaikbnaaGreatDoorW.PrintWords Go.Proofs.YtlnlabndaikbnaaGreatDoorW.PrintLast Go.Proofs.YtlnlabndaikbnaaGreatDoorW.PrintMore
attribute [local go_sem] max2_int min2_int max_two min_two max_three min_three max_four min_four   -- for this text's walks alone
set_option linter.unusedVariables false
set_option linter.unusedSimpArgs false

/-! ### laws_FnExactFormatConsole: function 3 -/
def laws_FnExactFormatConsole.j0 : Nat → Bool → List (S78) → ByteArray → ByteArray → Int → List (S73) → ByteArray → ByteArray → Int → Option (Bool)
  | 0, _, _, _, _, _, _, _, _, _ => none
  | k + 1, x34, x338000, x338001, x338002, x338003, x354000, x354001, x354002, x354003 => if x34 = true then (some false) else ((laws_toConsole.f k x338000 x338001 x338002 x338003).bind fun bt356 => ((laws_eqConsole.f k x354000 x354001 x354002 x354003 bt356.1 bt356.2.1 bt356.2.2.1 bt356.2.2.2).bind fun t362 => (if t362 = true then (some true) else (some false))))
def laws_FnExactFormatConsole.f (k : Nat) (l0_0 : List (S78)) (a0_1 : ByteArray) (a0_2 : ByteArray) (a0_3 : Int) : Option (Bool) := (laws_szConsole.f l0_0 a0_1 a0_2 a0_3 1048576).bind fun t338 => (if t338 < 0 then (some true) else ((laws_toConsole.f k l0_0 a0_1 a0_2 a0_3).bind fun bt339 => ((spec_FormatConsole.f k bt339.1 bt339.2.1 bt339.2.2.1 bt339.2.2.2).bind fun bt345 => ((laws_toConsole.f k l0_0 a0_1 a0_2 a0_3).bind fun bt347 => ((impl_FormatConsole.f k bt347.1 bt347.2.1 bt347.2.2.1 bt347.2.2.2).bind fun bt354 => (if bt354.1.toList = bt345.1.toList then (laws_FnExactFormatConsole.j0 k (bt354.2 != bt345.2) l0_0 a0_1 a0_2 a0_3 bt347.1 bt347.2.1 bt347.2.2.1 bt347.2.2.2) else (laws_FnExactFormatConsole.j0 k true l0_0 a0_1 a0_2 a0_3 bt347.1 bt347.2.1 bt347.2.2.1 bt347.2.2.2)))))))
set_option maxHeartbeats 8000000 in
set_option maxRecDepth 100000 in
theorem laws_FnExactFormatConsole.calls (k : Nat) (A0_0 : Option Addr) (c0_0 : Nat) (l0_0 : List (S78)) (a0_1 : ByteArray) (a0_2 : ByteArray) (a0_3 : Int) (r : Bool) (w : World) (hr0_0 : Kd.C k78 w A0_0 l0_0.length l0_0) (hc0_0 : l0_0.length ≤ c0_0) (h : laws_FnExactFormatConsole.f k l0_0 a0_1 a0_2 a0_3 = some r) (hrt_ : r = true) (hG_ : GW w) :
    Calls Tryz.prog 3 #[.agg #[.slice A0_0 l0_0.length c0_0, .string a0_1, .string a0_2, .int .i64 a0_3]] w fun e w' => e = .returned (.bool r) ∧ Below w.heap.size w w' := by
  have HG := A_ hG_
  clear hG_
  have hu26 := Tryz.underlying26
  have hu33 := Tryz.underlying33
  have HR0_0 := A_ hr0_0
  have HC0_0 := A_ hc0_0
  clear hr0_0 hc0_0
  have HB := A_ (Below.refl w.heap.size w)
  have H : ((laws_szConsole.f l0_0 a0_1 a0_2 a0_3 1048576).bind fun t338 => (if t338 < 0 then (some true) else ((laws_toConsole.f k l0_0 a0_1 a0_2 a0_3).bind fun bt339 => ((spec_FormatConsole.f k bt339.1 bt339.2.1 bt339.2.2.1 bt339.2.2.2).bind fun bt345 => ((laws_toConsole.f k l0_0 a0_1 a0_2 a0_3).bind fun bt347 => ((impl_FormatConsole.f k bt347.1 bt347.2.1 bt347.2.2.1 bt347.2.2.2).bind fun bt354 => (if bt354.1.toList = bt345.1.toList then (laws_FnExactFormatConsole.j0 k (bt354.2 != bt345.2) l0_0 a0_1 a0_2 a0_3 bt347.1 bt347.2.1 bt347.2.2.1 bt347.2.2.2) else (laws_FnExactFormatConsole.j0 k true l0_0 a0_1 a0_2 a0_3 bt347.1 bt347.2.1 bt347.2.2.1 bt347.2.2.2)))))))) = some r := h
  clear h
  obtain ⟨t338, A20, H⟩ := oB_ H
  have A2 := A_ A20
  clear A20
  by_cases c3 : t338 < 0
  · rw [if_pos c3] at H
    have c3b0 : decide (t338 < 0) = true := decide_eq_true c3
    clear c3
    obtain rfl := Option.some.inj H
    go_enter Tryz.func3, Tryz.ntmps3
    go_wp2_with (first | ((with_reducible refine gd_ 1 rfl ?_); refine box_event rfl (N := 1) rfl (cs := #[.slice A0_0 l0_0.length c0_0, .string a0_1, .string a0_2, .int .i64 a0_3]) (t := 26) mc142 ?_; intro gb337 hg w4 hbox hb; have BK337 := A_ (hbox); have GW337 := A_ ((mc45 : w.heap.size ≤ gb337)); have GE337 := A_ ((mc45 : w.heap.size ≤ gb337)); replace HB := A_ (below_step mc89 hb); clear hb hbox hg; have hcz5_0 : w4.cell? ⟨gb337, 0, none⟩ = some (.slice A0_0 l0_0.length c0_0) := bc_ BK337 0 rfl; have hcz5_1 : w4.cell? ⟨gb337, 1, none⟩ = some (.string a0_1) := bc_ BK337 1 rfl; have hcz5_2 : w4.cell? ⟨gb337, 2, none⟩ = some (.string a0_2) := bc_ BK337 2 rfl; have hcz5_3 : w4.cell? ⟨gb337, 3, none⟩ = some (.int .i64 a0_3) := bc_ BK337 3 rfl; have hfz5_0 := blk_frozen BK337.out 0; have hfz5_1 := blk_frozen BK337.out 1; have hfz5_2 := blk_frozen BK337.out 2; have hfz5_3 := blk_frozen BK337.out 3) | ((with_reducible refine gc_ 10 rfl ?_); refine goesL_ (some 11) rfl rfl Tryz.func10 kr_ rfl #[.agg #[.slice A0_0 l0_0.length c0_0, .string a0_1, .string a0_2, .int .i64 a0_3], .int .i64 1048576] rfl mc86 ?_; (with_reducible refine (laws_szConsole.calls _ _ l0_0 a0_1 a0_2 a0_3 1048576 t338 _ ?side1 ?side2 A2.out).mono ?_); (case side1 => exact mc42); (case side2 => exact HC0_0.out); rintro e w6 ⟨rfl, hb⟩; refine ⟨_, rfl, ?_⟩; replace BK337 := A_ (blk_below mc118 hb); replace HB := A_ (below_step mc70 hb); (try clear hb)))
    go_ret
    exact ⟨mc133, by repeat (first | (with_reducible first | exact HB.out | apply below_alloc | apply pw_below_drewN | apply below_drew1 | refine below_set ?_ GE337.out) | exact HB.out)⟩
  · rw [if_neg c3] at H
    have c3b0 : decide (t338 < 0) = false := decide_eq_false c3
    clear c3
    obtain ⟨⟨t339, t342, t343, t344⟩, A70, H⟩ := oB_ H
    have A7 := A_ A70
    clear A70
    obtain ⟨⟨t345, t346⟩, A80, H⟩ := oB_ H
    have A8 := A_ A80
    clear A80
    obtain ⟨⟨t347, t350, t351, t352⟩, A90, H⟩ := oB_ H
    have A9 := A_ A90
    clear A90
    obtain ⟨⟨t354, t355⟩, A100, H⟩ := oB_ H
    have A10 := A_ A100
    clear A100
    have HC11 := A_ H
    clear H
    go_enter Tryz.func3, Tryz.ntmps3
    go_upto_region 8 with (first | ((with_reducible refine gd_ 1 rfl ?_); refine box_event rfl (N := 1) rfl (cs := #[.slice A0_0 l0_0.length c0_0, .string a0_1, .string a0_2, .int .i64 a0_3]) (t := 26) mc142 ?_; intro gb337 hg w12 hbox hb; have BK337 := A_ (hbox); have GW337 := A_ ((mc45 : w.heap.size ≤ gb337)); have GE337 := A_ ((mc45 : w.heap.size ≤ gb337)); replace HB := A_ (below_step mc89 hb); clear hb hbox hg; have hcz13_0 : w12.cell? ⟨gb337, 0, none⟩ = some (.slice A0_0 l0_0.length c0_0) := bc_ BK337 0 rfl; have hcz13_1 : w12.cell? ⟨gb337, 1, none⟩ = some (.string a0_1) := bc_ BK337 1 rfl; have hcz13_2 : w12.cell? ⟨gb337, 2, none⟩ = some (.string a0_2) := bc_ BK337 2 rfl; have hcz13_3 : w12.cell? ⟨gb337, 3, none⟩ = some (.int .i64 a0_3) := bc_ BK337 3 rfl; have hfz13_0 := blk_frozen BK337.out 0; have hfz13_1 := blk_frozen BK337.out 1; have hfz13_2 := blk_frozen BK337.out 2; have hfz13_3 := blk_frozen BK337.out 3) | ((with_reducible refine gc_ 10 rfl ?_); refine goesL_ (some 11) rfl rfl Tryz.func10 kr_ rfl #[.agg #[.slice A0_0 l0_0.length c0_0, .string a0_1, .string a0_2, .int .i64 a0_3], .int .i64 1048576] rfl mc86 ?_; (with_reducible refine (laws_szConsole.calls _ _ l0_0 a0_1 a0_2 a0_3 1048576 t338 _ ?side1 ?side2 A2.out).mono ?_); (case side1 => exact mc42); (case side2 => exact HC0_0.out); rintro e w14 ⟨rfl, hb⟩; refine ⟨_, rfl, ?_⟩; replace BK337 := A_ (blk_below mc118 hb); replace HB := A_ (below_step mc70 hb); (try clear hb); have hcz15_0 : w14.cell? ⟨gb337, 0, none⟩ = some (.slice A0_0 l0_0.length c0_0) := bc_ BK337 0 rfl; have hcz15_1 : w14.cell? ⟨gb337, 1, none⟩ = some (.string a0_1) := bc_ BK337 1 rfl; have hcz15_2 : w14.cell? ⟨gb337, 2, none⟩ = some (.string a0_2) := bc_ BK337 2 rfl; have hcz15_3 : w14.cell? ⟨gb337, 3, none⟩ = some (.int .i64 a0_3) := bc_ BK337 3 rfl; have hfz15_0 := blk_frozen BK337.out 0; have hfz15_1 := blk_frozen BK337.out 1; have hfz15_2 := blk_frozen BK337.out 2; have hfz15_3 := blk_frozen BK337.out 3) | ((with_reducible refine gc_ 12 rfl ?_); refine goesL_ (some 16) rfl rfl Tryz.func12 kr_ rfl #[.agg #[.slice A0_0 l0_0.length c0_0, .string a0_1, .string a0_2, .int .i64 a0_3]] rfl mc86 ?_; (with_reducible refine (laws_toConsole.calls k _ _ l0_0 a0_1 a0_2 a0_3 t339 t342 t343 t344 _ ?side1 ?side2 A7.out).mono ?_); (case side1 => exact mc42); (case side2 => exact HC0_0.out); rintro e w16 ⟨v340, rfl, ho0, hb⟩; refine ⟨_, rfl, ?_⟩; have HO341 := A_ (Kd.R_lower ho0 (below_size mc70)); replace BK337 := A_ (blk_below mc118 hb); replace HB := A_ (below_step mc70 hb); (try clear hb); (try clear ho0); obtain ⟨Ao17, co17, eo17⟩ := Kd.R_slice HO341.out; subst eo17) | ((with_reducible refine gc_ 11 rfl ?_); refine goesL_ (some 17) rfl rfl Tryz.func11 kr_ rfl #[.agg #[.slice Ao17 t339.length co17, .string t342, .string t343, .int .i64 t344]] rfl mc86 ?_; (with_reducible refine (spec_FormatConsole.calls k _ _ t339 t342 t343 t344 t345 t346 _ ?side1 ?side2 A8.out).mono ?_); (case side1 => repeat (first | exact (Kd.R_reads' HO341.out).2.2 | (with_reducible refine Kd.C_alloc ?_ _) | (with_reducible refine Kd.C_drewN ?_ _) | (with_reducible refine Kd.C_drew ?_))); (case side2 => exact (Kd.R_reads' HO341.out).2.1); rintro e w18 ⟨rfl, hb⟩; refine ⟨_, rfl, ?_⟩; replace HO341 := A_ (Kd.R_below mc129 hb); replace BK337 := A_ (blk_below mc118 hb); replace HB := A_ (below_step mc70 hb); (try clear hb); have hcz19_0 : w18.cell? ⟨gb337, 0, none⟩ = some (.slice A0_0 l0_0.length c0_0) := bc_ BK337 0 rfl; have hcz19_1 : w18.cell? ⟨gb337, 1, none⟩ = some (.string a0_1) := bc_ BK337 1 rfl; have hcz19_2 : w18.cell? ⟨gb337, 2, none⟩ = some (.string a0_2) := bc_ BK337 2 rfl; have hcz19_3 : w18.cell? ⟨gb337, 3, none⟩ = some (.int .i64 a0_3) := bc_ BK337 3 rfl; have hfz19_0 := blk_frozen BK337.out 0; have hfz19_1 := blk_frozen BK337.out 1; have hfz19_2 := blk_frozen BK337.out 2; have hfz19_3 := blk_frozen BK337.out 3) | ((with_reducible refine gc_ 12 rfl ?_); refine goesL_ (some 21) rfl rfl Tryz.func12 kr_ rfl #[.agg #[.slice A0_0 l0_0.length c0_0, .string a0_1, .string a0_2, .int .i64 a0_3]] rfl mc86 ?_; (with_reducible refine (laws_toConsole.calls k _ _ l0_0 a0_1 a0_2 a0_3 t347 t350 t351 t352 _ ?side1 ?side2 A9.out).mono ?_); (case side1 => exact mc42); (case side2 => exact HC0_0.out); rintro e w20 ⟨v348, rfl, ho0, hb⟩; refine ⟨_, rfl, ?_⟩; have HO349 := A_ (Kd.R_lower (Kd.R_new' ho0 (Kd.R_lt mc129)) (below_size mc70)); replace HO341 := A_ (Kd.R_elder' mc129 (Kd.R_base ho0) hb); replace BK337 := A_ (blk_below mc118 hb); replace HB := A_ (below_step mc70 hb); (try clear hb); (try clear ho0)) | ((with_reducible refine gd_ 6 rfl ?_); refine box_event rfl (N := 6) rfl (cs := #[.slice none 0 0, .string (⟨#[]⟩ : ByteArray), .string (⟨#[]⟩ : ByteArray), .int .i64 0]) (t := 33) mc142 ?_; intro gb353 hg w21 hbox hb; replace HO341 := A_ (Kd.R_below mc129 hb); replace HO349 := A_ (Kd.R_below (by (with_reducible repeat (first | apply Kd.R_alloc | apply Kd.R_drewN | apply Kd.R_drew)); exact HO349.out) hb); have BK353 := A_ (hbox); have GW353 := A_ ((mc29 : w.heap.size ≤ gb353)); have GE353 := A_ ((mc29 : w.heap.size ≤ gb353)); replace HB := A_ (below_step mc70 hb); have NB337_353 := A_ ((by rw [hg]; exact Nat.ne_of_lt (blk_lt mc118) : gb337 ≠ gb353)); have NB353_337 := A_ ((by rw [hg]; exact Nat.ne_of_gt (blk_lt mc118) : gb353 ≠ gb337)); replace BK337 := A_ (blk_below mc118 hb); clear hb hbox hg; obtain ⟨Ao22, co22, eo22⟩ := Kd.R_slice HO349.out; subst eo22; have hnb23 := NB353_337.out; have hnc23 := NB337_353.out; have hcz24_0 : w21.cell? ⟨gb353, 0, none⟩ = some (.slice none 0 0) := bc_ BK353 0 rfl; have hcz24_1 : w21.cell? ⟨gb353, 1, none⟩ = some (.string (⟨#[]⟩ : ByteArray)) := bc_ BK353 1 rfl; have hcz24_2 : w21.cell? ⟨gb353, 2, none⟩ = some (.string (⟨#[]⟩ : ByteArray)) := bc_ BK353 2 rfl; have hcz24_3 : w21.cell? ⟨gb353, 3, none⟩ = some (.int .i64 0) := bc_ BK353 3 rfl; have hfz24_0 := blk_frozen BK353.out 0; have hfz24_1 := blk_frozen BK353.out 1; have hfz24_2 := blk_frozen BK353.out 2; have hfz24_3 := blk_frozen BK353.out 3) | ((with_reducible refine gc_ 13 rfl ?_); refine goesL_ (some 24) rfl rfl Tryz.func13 kr_ rfl #[.agg #[.slice Ao22 t347.length co22, .string t350, .string t351, .int .i64 t352]] rfl mc86 ?_; (with_reducible refine (impl_FormatConsole.calls k _ _ t347 t350 t351 t352 t354 t355 _ ?side1 ?side2 A10.out ?sideG).mono ?_); (case sideG => exact (gw_below HG.out mc36)); (case side1 => refine (Kd.R_reads' (e := 73) (base := w.heap.size) (ok := fun k_ => (True ∧ some k_ ≠ (.slice Ao17 t339.length co17 : Value).ownBlock)) (n := t347.length) (c := co22) ?_).2.2; exact mc8); (case side2 => exact (Kd.R_reads' HO349.out).2.1); rintro e w25 ⟨rfl, hb⟩; refine ⟨_, rfl, ?_⟩; replace HO341 := A_ (Kd.R_below (by (with_reducible repeat (first | apply Kd.R_alloc | apply Kd.R_drewN | apply Kd.R_drew)); exact (Kd.R_mono (Kd.R_far (p := ⟨gb353, 3, none⟩) (Kd.R_far (p := ⟨gb353, 2, none⟩) (Kd.R_far (p := ⟨gb353, 1, none⟩) (Kd.R_far (p := ⟨gb353, 0, none⟩) (Kd.R_types HO341.out BK353.out (by decide)) (fun _ hk => hk.2) (.slice Ao22 t347.length co22)) (fun _ hk => hk.2) (.string t350)) (fun _ hk => hk.2) (.string t351)) (fun _ hk => hk.2) (.int .i64 t352)) (fun _ h_ => h_.1))) hb); replace HO349 := A_ (Kd.R_below mc8 hb); replace BK337 := A_ (blk_below (g := gb337) (o := .cells #[.slice A0_0 l0_0.length c0_0, .string a0_1, .string a0_2, .int .i64 a0_3] 26 (0, 0)) (by (with_reducible repeat (first | refine blk_drewN ?_ _ | refine blk_drew ?_ | refine blk_alloc ?_ _)); refine blk_far ?_ NB337_353.out _; (with_reducible repeat (first | refine blk_drewN ?_ _ | refine blk_drew ?_ | refine blk_alloc ?_ _)); refine blk_far ?_ NB337_353.out _; (with_reducible repeat (first | refine blk_drewN ?_ _ | refine blk_drew ?_ | refine blk_alloc ?_ _)); refine blk_far ?_ NB337_353.out _; (with_reducible repeat (first | refine blk_drewN ?_ _ | refine blk_drew ?_ | refine blk_alloc ?_ _)); refine blk_far ?_ NB337_353.out _; (with_reducible repeat (first | refine blk_drewN ?_ _ | refine blk_drew ?_ | refine blk_alloc ?_ _)); exact BK337.out) hb); replace BK353 := A_ (blk_below (g := gb353) (o := .cells #[.slice Ao22 t347.length co22, .string t350, .string t351, .int .i64 t352] 33 (0, 0)) (by (with_reducible repeat (first | refine blk_drewN ?_ _ | refine blk_drew ?_ | refine blk_alloc ?_ _)); refine blk_put (cs := #[.slice Ao22 t347.length co22, .string t350, .string t351, .int .i64 0]) ?_ 3 _ rfl; (with_reducible repeat (first | refine blk_drewN ?_ _ | refine blk_drew ?_ | refine blk_alloc ?_ _)); refine blk_put (cs := #[.slice Ao22 t347.length co22, .string t350, .string (⟨#[]⟩ : ByteArray), .int .i64 0]) ?_ 2 _ rfl; (with_reducible repeat (first | refine blk_drewN ?_ _ | refine blk_drew ?_ | refine blk_alloc ?_ _)); refine blk_put (cs := #[.slice Ao22 t347.length co22, .string (⟨#[]⟩ : ByteArray), .string (⟨#[]⟩ : ByteArray), .int .i64 0]) ?_ 1 _ rfl; (with_reducible repeat (first | refine blk_drewN ?_ _ | refine blk_drew ?_ | refine blk_alloc ?_ _)); refine blk_put (cs := #[.slice none 0 0, .string (⟨#[]⟩ : ByteArray), .string (⟨#[]⟩ : ByteArray), .int .i64 0]) ?_ 0 _ rfl; (with_reducible repeat (first | refine blk_drewN ?_ _ | refine blk_drew ?_ | refine blk_alloc ?_ _)); exact BK353.out) hb); replace HB := A_ (below_step mc36 hb); (try clear hb)))
    (try simp only [Act.put, List.setIfInBounds_toArray, List.set_cons_zero, List.set_cons_succ])
    go_cut [34] (fun v34 wc => ∃ (kq : Nat) (x34_10 : Bool), v34 = .bool x34_10 ∧ Aside0 (laws_FnExactFormatConsole.j0 kq x34_10 l0_0 a0_1 a0_2 a0_3 t347 t350 t351 t352 = some r) ∧ Aside0 (kq ≤ k) ∧ Aside0 (Kd.R k73 73 wc w.heap.size (fun _ => True) (.slice Ao22 t347.length co22) t347) ∧ Aside0 (wc.heap[gb337]? = some (.cells #[(.slice A0_0 l0_0.length c0_0), .string a0_1, .string a0_2, .int .i64 a0_3] 26 (0, 0))) ∧ Aside0 (wc.heap[gb353]? = some (.cells #[(.slice Ao22 t347.length co22), .string t350, .string t351, .int .i64 t352] 33 (0, 0))) ∧ Aside0 (Below w.heap.size w wc))
    case first =>
      have H := HC11.out
      clear HC11
      by_cases c26 : t354.toList = t345.toList
      · rw [if_pos c26] at H
        have c26b0 : (t354.toList == t345.toList) = true := beq_iff_eq.mpr c26
        have c26b1 : (t354.toList != t345.toList) = false := bne_eq_false_iff_eq.mpr c26
        clear c26
        (first | rw [c26b0] | (simp only [i64_w, i32_w]; rw [c26b0]) | skip)
        have H' := A_ H
        clear H
        go_wp2
        go_meet
        case rel => exact ⟨_, ((t355 != t346)), mc141, H', ⟨by first | omega | exact Nat.le_refl _⟩, ⟨by (with_reducible repeat (first | apply Kd.R_alloc | apply Kd.R_drewN | apply Kd.R_drew)); exact Kd.R_mono HO349.out (fun _ hk => trivial)⟩, ⟨mc118⟩, ⟨mc119⟩, ⟨mc36⟩⟩
      · rw [if_neg c26] at H
        have c26b0 : (t354.toList == t345.toList) = false := beq_eq_false_iff_ne.mpr c26
        have c26b1 : (t354.toList != t345.toList) = true := bne_iff_ne.mpr c26
        (first | rw [c26b0] | (simp only [i64_w, i32_w]; rw [c26b0]) | skip)
        have H' := A_ H
        clear H
        go_wp2
        go_meet
        case rel => exact ⟨_, (true), mc141, H', ⟨by first | omega | exact Nat.le_refl _⟩, ⟨by (with_reducible repeat (first | apply Kd.R_alloc | apply Kd.R_drewN | apply Kd.R_drew)); exact Kd.R_mono HO349.out (fun _ hk => trivial)⟩, ⟨mc118⟩, ⟨mc119⟩, ⟨mc36⟩⟩
    case rest =>
      clear HC11
      try clear p2
      try clear c3b0
      try clear c26b0
      try clear c26b1
      obtain ⟨kq, x34_10, rfl, HA, HJ10, HO_354000, BK337, BK353, HB⟩ := hcut
      cases kq with
      | zero => exact absurd HA.out (by simp [laws_FnExactFormatConsole.j0])
      | succ kj10 =>
        have H := HA.out
        clear HA
        simp only [laws_FnExactFormatConsole.j0] at H
        by_cases c27 : x34_10 = true
        · subst c27
          have H1 : (some false) = some r := by rw [if_pos rfl] at H; exact H
          exact absurd ((Option.some.inj H1).trans hrt_) (by decide)
        · replace c27 := Bool.eq_false_iff.mpr c27
          subst c27
          rw [if_neg (show ¬ (false = true) by decide)] at H
          obtain ⟨⟨t356, t359, t360, t361⟩, A280, H⟩ := oB_ H
          have A28 := A_ A280
          clear A280
          obtain ⟨t362, A290, H⟩ := oB_ H
          have A29 := A_ A290
          clear A290
          by_cases c30 : t362 = true
          · subst c30
            rw [if_pos rfl] at H
            obtain rfl := Option.some.inj H
            try go_wp2
            replace HO_354000 := A_ (Kd.R_drew HO_354000.out)
            replace BK337 := A_ (blk_drew BK337.out)
            replace BK353 := A_ (blk_drew BK353.out)
            replace HB := A_ (below_drew1 HB.out)
            refine start_ (n := 5) (S := fun w' => w'.cell? ⟨gb353, 0, none⟩ = some (.slice Ao22 t347.length co22) ∧ w'.cell? ⟨gb353, 1, none⟩ = some (.string t350) ∧ w'.cell? ⟨gb353, 2, none⟩ = some (.string t351) ∧ w'.cell? ⟨gb353, 3, none⟩ = some (.int .i64 t352) ∧ w'.cell? ⟨gb337, 0, none⟩ = some (.slice A0_0 l0_0.length c0_0) ∧ w'.cell? ⟨gb337, 1, none⟩ = some (.string a0_1) ∧ w'.cell? ⟨gb337, 2, none⟩ = some (.string a0_2) ∧ w'.cell? ⟨gb337, 3, none⟩ = some (.int .i64 a0_3)) (ds := []) #[false, false, false, false, false] kr_ rfl rfl ⟨bc_ BK353 0 rfl, bc_ BK353 1 rfl, bc_ BK353 2 rfl, bc_ BK353 3 rfl, bc_ BK337 0 rfl, bc_ BK337 1 rfl, bc_ BK337 2 rfl, bc_ BK337 3 rfl⟩ (fun hHeld => ?_)
            generalize wc.drew = w31 at HO_354000 BK337 BK353 HB hHeld ⊢
            refine take_ (i := 0) (N := some 35) #[true, false, false, false, false] rfl rfl kr_ (fun _ _ _ h => h) (Or.inl ⟨by rfl, (by rintro w' ⟨s0, s1, s2, s3, s4, s5, s6, s7⟩; go_simp; with_reducible rfl)⟩) hHeld mc122 ?_
            refine take_ (i := 1) (N := some 36) #[true, true, false, false, false] rfl rfl kr_ (fun _ _ _ h => h) (Or.inl ⟨by rfl, (by rintro w' ⟨s0, s1, s2, s3, s4, s5, s6, s7⟩; go_simp; with_reducible rfl)⟩) hHeld mc122 ?_
            refine one_ (i := 2) (N := some 37) #[true, true, true, false, false] rfl rfl kr_ (by decide) (fun K hK => ?_)
            refine goes_ Tryz.func12 kr_ rfl #[.agg #[.slice A0_0 l0_0.length c0_0, .string a0_1, .string a0_2, .int .i64 a0_3]] (by rfl) rfl rfl mc86 ?_
            with_reducible refine (laws_toConsole.calls kj10 _ _ l0_0 a0_1 a0_2 a0_3 t356 t359 t360 t361 _ ?side1 ?side2 A28.out).mono ?_
            (case side1 => exact mc42)
            (case side2 => exact HC0_0.out)
            rintro e w32 ⟨v357, rfl, ho0, hb⟩
            refine ⟨_, rfl, ?_⟩
            have HO358 := A_ (Kd.R_lower (Kd.R_new' ho0 (Kd.R_lt mc121)) (below_size mc36))
            replace HO_354000 := A_ (Kd.R_elder' mc121 (Kd.R_base ho0) hb)
            replace BK337 := A_ (blk_below mc118 hb)
            replace BK353 := A_ (blk_below mc119 hb)
            replace HB := A_ (below_step mc36 hb)
            (try clear hb)
            (try clear ho0)
            obtain ⟨Ao33, co33, eo33⟩ := Kd.R_slice HO358.out
            (first | subst eo33 | (injection eo33 with f1_ f2_ f3_; have f4_ := f1_.symm; have f5_ := f3_.symm; clear f1_ f2_ f3_; subst f4_; subst f5_))
            refine hK.out _ _ ⟨bc_ BK353 0 rfl, bc_ BK353 1 rfl, bc_ BK353 2 rfl, bc_ BK353 3 rfl, bc_ BK337 0 rfl, bc_ BK337 1 rfl, bc_ BK337 2 rfl, bc_ BK337 3 rfl⟩ (fun hHeld => ?_)
            clear hK K
            refine norm_ (by show Act.put _ (some 37) _ = _; simp only [Act.put, List.setIfInBounds_toArray, List.set_cons_zero, List.set_cons_succ, i64_w, i32_w]; rfl) ?_
            refine one_ (i := 3) (N := some 38) #[true, true, true, true, false] rfl rfl kr_ (by decide) (fun K hK => ?_)
            refine goes_ Tryz.func14 kr_ rfl #[.agg #[.slice Ao22 t347.length co22, .string t350, .string t351, .int .i64 t352], .agg #[.slice Ao33 t356.length co33, .string t359, .string t360, .int .i64 t361]] (by rfl) rfl rfl mc86 ?_
            with_reducible refine (laws_eqConsole.calls kj10 _ _ t347 t350 t351 t352 _ _ t356 t359 t360 t361 true _ ?side1 ?side2 ?side3 ?side4 A29.out).mono ?_
            (case side1 => repeat (first | exact (Kd.R_reads' HO_354000.out).2.2 | (with_reducible refine Kd.C_alloc ?_ _) | (with_reducible refine Kd.C_drewN ?_ _) | (with_reducible refine Kd.C_drew ?_)))
            (case side2 => exact (Kd.R_reads' HO_354000.out).2.1)
            (case side3 => repeat (first | exact (Kd.R_reads' HO358.out).2.2 | (with_reducible refine Kd.C_alloc ?_ _) | (with_reducible refine Kd.C_drewN ?_ _) | (with_reducible refine Kd.C_drew ?_)))
            (case side4 => exact (Kd.R_reads' HO358.out).2.1)
            rintro e w34 ⟨rfl, hb⟩
            refine ⟨_, rfl, ?_⟩
            replace HO_354000 := A_ (Kd.R_below mc121 hb)
            replace HO358 := A_ (Kd.R_below (by (with_reducible repeat (first | apply Kd.R_alloc | apply Kd.R_drewN | apply Kd.R_drew)); exact HO358.out) hb)
            replace BK337 := A_ (blk_below mc118 hb)
            replace BK353 := A_ (blk_below mc119 hb)
            replace HB := A_ (below_step mc36 hb)
            (try clear hb)
            refine hK.out _ _ ⟨bc_ BK353 0 rfl, bc_ BK353 1 rfl, bc_ BK353 2 rfl, bc_ BK353 3 rfl, bc_ BK337 0 rfl, bc_ BK337 1 rfl, bc_ BK337 2 rfl, bc_ BK337 3 rfl⟩ (fun hHeld => ?_)
            clear hK K
            refine norm_ (by show Act.put _ (some 38) _ = _; simp only [Act.put, List.setIfInBounds_toArray, List.set_cons_zero, List.set_cons_succ, i64_w, i32_w]; rfl) ?_
            refine pure_ (i := 4) (N := some 39) #[true, true, true, true, true] rfl rfl kr_ (fun _ _ _ h => h) (Or.inl ⟨by rfl, mc143⟩) mc122 ?_
            refine done_ kr_ ?_
            try go_wp2
            go_ret
            exact ⟨mc133, mc36⟩
          · replace c30 := Bool.eq_false_iff.mpr c30
            subst c30
            have H1 : (some false) = some r := by rw [if_neg (show ¬ (false = true) by decide)] at H; exact H
            exact absurd ((Option.some.inj H1).trans hrt_) (by decide)
end Go.Proofs.YtlnlabndaikbnaaGreatDoor.P
