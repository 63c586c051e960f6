-- Made by pp.py of this session out of the kit's print and of contracts proved by hand; Lean checks it.
import Derived.Test.YtdmkbfjipgaloaaMc
import Derived.Test.YtdmkbfjipgaloaaPx0
import Derived.Test.YtdmkbfjipgaloaaPx3
import Derived.Test.YtdmkbfjipgaloaaPx9
import Derived.Test.YtdmkbfjipgaloaaPx10
namespace Go.Proofs.Ytdmkbfjipgaloaa.P
open Go.RowKit Go.Proofs.YtdmkbfjipgaloaaW.PrintWords Go.Proofs.YtdmkbfjipgaloaaW.PrintLast Go.Proofs.YtdmkbfjipgaloaaW.PrintMore
attribute [local go_sem] max2_int min2_int max_two min_two max_three min_three max_four min_four   -- for this text's walks alone
set_option linter.unusedVariables false
set_option linter.unusedSimpArgs false

/-! ### impl_checkedCell: function 70 -/
def impl_checkedCell.f (a0 : Int) : Option (Int) := (impl_within.f a0 (-9000) 9000).bind fun t472 => (if t472 = true then (some a0) else (some 9001))
set_option maxHeartbeats 8000000 in
set_option maxRecDepth 100000 in
theorem impl_checkedCell.calls (a0 : Int) (r : Int) (w : World) (h : impl_checkedCell.f a0 = some r) :
  Calls Try.prog 70 #[.int .i64 a0] w fun e w' => e = .returned (.int .i64 r) ∧ Drawn0 w w' := by
 have H : ((impl_within.f a0 (-9000) 9000).bind fun t472 => (if t472 = true then (some a0) else (some 9001))) = some r := h
 clear h
 obtain ⟨t472, A20, H⟩ := oB_ H
 have A2 := A_ A20
 clear A20
 by_cases c3 : t472 = true
 ·
  subst c3
  rw [if_pos rfl] at H
  obtain rfl := Option.some.inj H
  go_enter Try.func70, Try.ntmps70
  go_wp2_with (first | ((with_reducible refine gc_ 68 rfl ?_); refine goesL_ (some 4) rfl rfl Try.func68 kr_ rfl #[.int .i64 a0, .int .i64 (-9000), .int .i64 9000] rfl mc247 ?_; (with_reducible refine (impl_within.calls a0 (-9000) 9000 true _ A2.out).mono ?_); rintro e w' ⟨rfl, ⟨nd, rfl⟩⟩; refine ⟨_, rfl, ?_⟩))
  go_ret
  exact ⟨mc352, mc338⟩
 replace c3 := Bool.eq_false_iff.mpr c3
 subst c3
 rw [if_neg (show ¬ (false = true) by decide)] at H
 obtain rfl := Option.some.inj H
 go_enter Try.func70, Try.ntmps70
 go_wp2_with (first | ((with_reducible refine gc_ 68 rfl ?_); refine goesL_ (some 4) rfl rfl Try.func68 kr_ rfl #[.int .i64 a0, .int .i64 (-9000), .int .i64 9000] rfl mc247 ?_; (with_reducible refine (impl_within.calls a0 (-9000) 9000 false _ A2.out).mono ?_); rintro e w' ⟨rfl, ⟨nd, rfl⟩⟩; refine ⟨_, rfl, ?_⟩))
 go_ret
 exact ⟨mc352, mc338⟩

/-! ### impl_AddToRegion: function 33 -/

set_option maxHeartbeats 1000000
def mk_impl_AddToRegion_1.f (v : Int) : Option (Int → Int → Option Int) := some fun _ n => if n = -9999 then some (-9999) else impl_checkedCell.f (wrap64 (n + v))
theorem mk_impl_AddToRegion_1.fn (v : Int) (F : Int → Int → Option Int) (w : World) (h : mk_impl_AddToRegion_1.f v = some F) (g : Nat) (b : w.heap[g]? = some (.cells #[.int .i64 v] 3 (0, 0))) : ∀ W_ : World, Below w.heap.size w W_ → ∀ c0_ c1_ r_, F c0_ c1_ = some r_ → Calls Try.prog 69 (#[.int .i64 c0_, .int .i64 c1_] ++ #[.pointer (some ⟨g, 0, none⟩)]) W_ fun e w' => e = .returned (.int .i64 r_) ∧ Drawn0 W_ w' := by
 intro W hB c0 c1 r hr
 have b1 := blk_below b hB
 have hcz : W.cell? ⟨g, 0, none⟩ = some (.int .i64 v) := (blk_cell b1 0).trans rfl
 have hfz := blk_frozen b1 0
 obtain rfl := Option.some.inj h
 clear b b1 hB h
 show Calls Try.prog 69 #[.int .i64 c0, .int .i64 c1, .pointer (some ⟨g, 0, none⟩)] W fun e w' => e = .returned (.int .i64 r) ∧ Drawn0 W w'
 by_cases hc : c1 = -9999
 ·
  have hr' : (some (-9999) : Option Int) = some r := by rw [← hr]; exact (if_pos hc).symm
  obtain rfl := Option.some.inj hr'
  have hcb : (c1 == -9999) = true := by simpa using hc
  clear hr hr' hc
  go_enter Try.func69, Try.ntmps69
  go_wp2
  go_ret
  exact ⟨rfl, mc338⟩
 have hr' : impl_checkedCell.f (wrap64 (c1 + v)) = some r := by rw [← hr]; exact (if_neg hc).symm
 have hcb : (c1 == -9999) = false := by simpa using hc
 have A1 := A_ hr'
 clear hr hr' hc
 go_enter Try.func69, Try.ntmps69
 go_wp2_with (go_at_call 70; (with_reducible refine (impl_checkedCell.calls (wrap64 (c1 + v)) r _ A1.out).mono ?_); rintro e w' ⟨rfl, ⟨q', rfl⟩⟩)
 go_ret
 exact ⟨rfl, mc338⟩
def impl_AddToRegion.j0 : Nat → List Int → Bool → Int → Int → List Int → Int → Option (Int × Int × List Int × Bool)
 | 0, _, _, _, _, _, _ => none
 | k + 1, x1, x16, x474000, x474001, x474002, x475000 => if x16 = true then (some (0, 0, ([] : List Int), false)) else ((mk_impl_AddToRegion_1.f x475000).bind fun t478 => ((impl_editedField.f k x474000 x474001 x474002 x1 t478).bind fun bt479 => (some (bt479.1, bt479.2.1, bt479.2.2.1, bt479.2.2.2))))
def impl_AddToRegion.f (k : Nat) (a0_0 : Int) (a0_1 : Int) (l0_2 : List Int) (l1 : List Int) (a2 : Int) : Option (Int × Int × List Int × Bool) := (impl_isRegionOf.f k a0_0 a0_1 l0_2 l1).bind fun t476 => (if t476 = true then ((impl_within.f a2 (-18000) 18000).bind fun t477 => (impl_AddToRegion.j0 k l1 (!t477) a0_0 a0_1 l0_2 a2)) else (impl_AddToRegion.j0 k l1 true a0_0 a0_1 l0_2 a2))
set_option maxHeartbeats 8000000 in
set_option maxRecDepth 100000 in
theorem impl_AddToRegion.calls (k : Nat) (a0_0 : Int) (a0_1 : Int) (A0_2 : Option Addr) (c0_2 : Nat) (l0_2 : List Int) (A1 : Option Addr) (c1 : Nat) (l1 : List Int) (a2 : Int) (r1 : Int) (r2 : Int) (r3 : List Int) (r4 : Bool) (w : World) (hr0_2 : Kd.C (Kd.int .i64) w A0_2 l0_2.length l0_2) (hc0_2 : l0_2.length ≤ c0_2) (hr1 : Kd.C (Kd.int .i64) w A1 l1.length l1) (hc1 : l1.length ≤ c1) (h : impl_AddToRegion.f k a0_0 a0_1 l0_2 l1 a2 = some (r1, r2, r3, r4)) :
  Calls Try.prog 33 #[.agg #[.int .i64 a0_0, .int .i64 a0_1, .slice A0_2 l0_2.length c0_2], .slice A1 l1.length c1, .int .i64 a2] w fun e w' => ∃ v2_ : Value, e = .returned (.tuple #[.agg #[.int .i64 r1, .int .i64 r2, v2_], .bool r4]) ∧ Kd.R (Kd.int .i64) 3 w' w.heap.size (fun _ => True) v2_ r3 ∧ Below w.heap.size w w' := by
 have hu26 := Try.underlying26
 have HR0_2 := A_ hr0_2
 have HC0_2 := A_ hc0_2
 clear hr0_2 hc0_2
 have HR1 := A_ hr1
 have HC1 := A_ hc1
 clear hr1 hc1
 have HB := A_ (Below.refl w.heap.size w)
 have H : ((impl_isRegionOf.f k a0_0 a0_1 l0_2 l1).bind fun t476 => (if t476 = true then ((impl_within.f a2 (-18000) 18000).bind fun t477 => (impl_AddToRegion.j0 k l1 (!t477) a0_0 a0_1 l0_2 a2)) else (impl_AddToRegion.j0 k l1 true a0_0 a0_1 l0_2 a2))) = some (r1, r2, r3, r4) := h
 clear h
 have HC4 := A_ H
 clear H
 go_enter Try.func33, Try.ntmps33
 go_upto_region 1 with (first | ((with_reducible refine gd_ 3 rfl ?_); refine box_event rfl (N := 3) rfl (cs := #[.int .i64 a0_0, .int .i64 a0_1, .slice A0_2 l0_2.length c0_2]) (t := 26) mc353 ?_; intro gb473 hg w5 hbox hb; have BK473 := A_ (hbox); have GW473 := A_ ((mc213 : w.heap.size ≤ gb473)); have GE473 := A_ ((mc213 : w.heap.size ≤ gb473)); replace HB := A_ (below_step mc249 hb); clear hb hbox hg) | ((with_reducible refine gd_ 5 rfl ?_); refine box_event rfl (N := 5) rfl (cs := #[.int .i64 a2]) (t := 3) mc353 ?_; intro gb474 hg w6 hbox hb; have BK474 := A_ (hbox); have GW474 := A_ ((mc176 : w.heap.size ≤ gb474)); have GE474 := A_ ((mc176 : w.heap.size ≤ gb474)); replace HB := A_ (below_step mc229 hb); have NB473_474 := A_ ((by rw [hg]; exact Nat.ne_of_lt (blk_lt mc289) : gb473 ≠ gb474)); have NB474_473 := A_ ((by rw [hg]; exact Nat.ne_of_gt (blk_lt mc289) : gb474 ≠ gb473)); replace BK473 := A_ (blk_below mc289 hb); clear hb hbox hg) | ((with_reducible refine gd_ 6 rfl ?_); refine box_event rfl (N := 6) rfl (cs := #[.int .i64 0, .int .i64 0, .slice none 0 0]) (t := 26) mc353 ?_; intro gb475 hg w7 hbox hb; have BK475 := A_ (hbox); have GW475 := A_ ((mc128 : w.heap.size ≤ gb475)); have GE475 := A_ ((mc128 : w.heap.size ≤ gb475)); replace HB := A_ (below_step mc189 hb); have NB473_475 := A_ ((by rw [hg]; exact Nat.ne_of_lt (blk_lt mc289) : gb473 ≠ gb475)); have NB475_473 := A_ ((by rw [hg]; exact Nat.ne_of_gt (blk_lt mc289) : gb475 ≠ gb473)); replace BK473 := A_ (blk_below mc289 hb); have NB474_475 := A_ ((by rw [hg]; exact Nat.ne_of_lt (blk_lt mc290) : gb474 ≠ gb475)); have NB475_474 := A_ ((by rw [hg]; exact Nat.ne_of_gt (blk_lt mc290) : gb475 ≠ gb474)); replace BK474 := A_ (blk_below mc290 hb); clear hb hbox hg))
 (try simp only [Act.put, List.setIfInBounds_toArray, List.set_cons_zero, List.set_cons_succ])
 go_cut [16] (fun v16 wc => ∃ (kq : Nat) (x16_3 : Bool), v16 = .bool x16_3 ∧ Aside0 (impl_AddToRegion.j0 kq l1 x16_3 a0_0 a0_1 l0_2 a2 = some (r1, r2, r3, r4)) ∧ Aside0 (kq ≤ k) ∧ Aside0 (wc.heap[gb473]? = some (.cells #[.int .i64 a0_0, .int .i64 a0_1, (.slice A0_2 l0_2.length c0_2)] 26 (0, 0))) ∧ Aside0 (wc.heap[gb474]? = some (.cells #[.int .i64 a2] 3 (0, 0))) ∧ Aside0 (wc.heap[gb475]? = some (.cells #[.int .i64 0, .int .i64 0, (.slice none 0 0)] 26 (0, 0))) ∧ Aside0 (Below w.heap.size w wc))
 case first =>
  have H := HC4.out
  clear HC4
  obtain ⟨t476, A80, H⟩ := oB_ H
  have A8 := A_ A80
  clear A80
  by_cases c9 : t476 = true
  rotate_left
  ·
   replace c9 := Bool.eq_false_iff.mpr c9
   subst c9
   rw [if_neg (show ¬ (false = true) by decide)] at H
   have H' := A_ H
   clear H
   have hnb17 := NB473_474.out
   have hnc17 := NB474_473.out
   have hnb18 := NB473_475.out
   have hnc18 := NB475_473.out
   have hcz19_0 : w7.cell? ⟨gb473, 0, none⟩ = some (.int .i64 a0_0) := bc_ BK473 0 rfl
   have hcz19_1 : w7.cell? ⟨gb473, 1, none⟩ = some (.int .i64 a0_1) := bc_ BK473 1 rfl
   have hcz19_2 : w7.cell? ⟨gb473, 2, none⟩ = some (.slice A0_2 l0_2.length c0_2) := bc_ BK473 2 rfl
   have hfz19_0 := blk_frozen BK473.out 0
   have hfz19_1 := blk_frozen BK473.out 1
   have hfz19_2 := blk_frozen BK473.out 2
   go_wp2_with (first | ((with_reducible refine gc_ 58 rfl ?_); refine goesL_ (some 10) rfl rfl Try.func58 kr_ rfl #[.agg #[.int .i64 a0_0, .int .i64 a0_1, .slice A0_2 l0_2.length c0_2], .slice A1 l1.length c1] rfl mc247 ?_; (with_reducible refine (impl_isRegionOf.calls k a0_0 a0_1 _ _ l0_2 _ _ l1 false _ ?side1 ?side2 ?side3 ?side4 A8.out).mono ?_); (case side1 => exact mc200); (case side2 => exact HC0_2.out); (case side3 => exact mc205); (case side4 => exact HC1.out); rintro e w20 ⟨rfl, hb⟩; refine ⟨_, rfl, ?_⟩; replace BK473 := A_ (blk_below mc289 hb); replace BK474 := A_ (blk_below mc290 hb); replace BK475 := A_ (blk_below mc291 hb); replace HB := A_ (below_step mc133 hb); (try clear hb)))
   go_meet
   case rel => exact ⟨_, (true), mc352, H', ⟨mc355⟩, ⟨mc289⟩, ⟨mc290⟩, ⟨mc291⟩, ⟨mc133⟩⟩
  subst c9
  rw [if_pos rfl] at H
  obtain ⟨t477, A100, H⟩ := oB_ H
  have A10 := A_ A100
  clear A100
  have H' := A_ H
  clear H
  have hnb11 := NB473_474.out
  have hnc11 := NB474_473.out
  have hnb12 := NB473_475.out
  have hnc12 := NB475_473.out
  have hcz13_0 : w7.cell? ⟨gb473, 0, none⟩ = some (.int .i64 a0_0) := bc_ BK473 0 rfl
  have hcz13_1 : w7.cell? ⟨gb473, 1, none⟩ = some (.int .i64 a0_1) := bc_ BK473 1 rfl
  have hcz13_2 : w7.cell? ⟨gb473, 2, none⟩ = some (.slice A0_2 l0_2.length c0_2) := bc_ BK473 2 rfl
  have hfz13_0 := blk_frozen BK473.out 0
  have hfz13_1 := blk_frozen BK473.out 1
  have hfz13_2 := blk_frozen BK473.out 2
  go_wp2_with (first | ((with_reducible refine gc_ 58 rfl ?_); refine goesL_ (some 10) rfl rfl Try.func58 kr_ rfl #[.agg #[.int .i64 a0_0, .int .i64 a0_1, .slice A0_2 l0_2.length c0_2], .slice A1 l1.length c1] rfl mc247 ?_; (with_reducible refine (impl_isRegionOf.calls k a0_0 a0_1 _ _ l0_2 _ _ l1 true _ ?side1 ?side2 ?side3 ?side4 A8.out).mono ?_); (case side1 => exact mc200); (case side2 => exact HC0_2.out); (case side3 => exact mc205); (case side4 => exact HC1.out); rintro e w14 ⟨rfl, hb⟩; refine ⟨_, rfl, ?_⟩; replace BK473 := A_ (blk_below mc289 hb); replace BK474 := A_ (blk_below mc290 hb); replace BK475 := A_ (blk_below mc291 hb); replace HB := A_ (below_step mc133 hb); (try clear hb); have hnb15 := NB474_475.out; have hnc15 := NB475_474.out; have hcz16_0 : w14.cell? ⟨gb474, 0, none⟩ = some (.int .i64 a2) := bc_ BK474 0 rfl; have hfz16_0 := blk_frozen BK474.out 0) | (go_at_call 68; (with_reducible refine (impl_within.calls a2 (-18000) 18000 t477 _ A10.out).mono ?_); rintro e w' ⟨rfl, ⟨nd, rfl⟩⟩))
  go_meet
  case rel => exact ⟨_, (!t477), mc352, H', ⟨mc355⟩, ⟨mc289⟩, ⟨mc290⟩, ⟨mc291⟩, ⟨mc133⟩⟩
 case rest =>
  clear HC4
  try clear p2
  obtain ⟨kq, x16_3, rfl, HA, HJ3, BK473, BK474, BK475, HB⟩ := hcut
  cases kq with
  | zero => exact absurd HA.out (by simp [impl_AddToRegion.j0])
  | succ kj3 =>
   have H := HA.out
   clear HA
   simp only [impl_AddToRegion.j0] at H
   by_cases c21 : x16_3 = true
   ·
    subst c21
    rw [if_pos rfl] at H
    simp only [Option.some.injEq, Prod.mk.injEq] at H
    obtain ⟨rfl, rfl, rfl, rfl⟩ := H
    have hnb22 := NB475_473.out
    have hnc22 := NB473_475.out
    have hnb23 := NB475_474.out
    have hnc23 := NB474_475.out
    have hcz24_0 : wc.cell? ⟨gb475, 0, none⟩ = some (.int .i64 0) := bc_ BK475 0 rfl
    have hcz24_1 : wc.cell? ⟨gb475, 1, none⟩ = some (.int .i64 0) := bc_ BK475 1 rfl
    have hcz24_2 : wc.cell? ⟨gb475, 2, none⟩ = some (.slice none 0 0) := bc_ BK475 2 rfl
    have hfz24_0 := blk_frozen BK475.out 0
    have hfz24_1 := blk_frozen BK475.out 1
    have hfz24_2 := blk_frozen BK475.out 2
    go_wp2
    refine bodyPost_ret (results_ct rfl _ _ gb475 26 #[.int .i64 0, .int .i64 0, .slice none 0 0] (0, 0) _ rfl (by (with_reducible repeat (first | refine blk_drewN ?_ _ | refine blk_drew ?_ | refine blk_alloc ?_ _)); refine blk_put (cs := #[.int .i64 0, .int .i64 0, .slice none 0 0]) ?_ 2 _ rfl; (with_reducible repeat (first | refine blk_drewN ?_ _ | refine blk_drew ?_ | refine blk_alloc ?_ _)); refine blk_put (cs := #[.int .i64 0, .int .i64 0, .slice none 0 0]) ?_ 1 _ rfl; (with_reducible repeat (first | refine blk_drewN ?_ _ | refine blk_drew ?_ | refine blk_alloc ?_ _)); refine blk_put (cs := #[.int .i64 0, .int .i64 0, .slice none 0 0]) ?_ 0 _ rfl; (with_reducible repeat (first | refine blk_drewN ?_ _ | refine blk_drew ?_ | refine blk_alloc ?_ _)); exact BK475.out) Try.underlying26 rfl kr_) rfl ?_
    exact ⟨_, mc332, mc246, mc133⟩
   replace c21 := Bool.eq_false_iff.mpr c21
   subst c21
   rw [if_neg (show ¬ (false = true) by decide)] at H
   obtain ⟨t478, A250, H⟩ := oB_ H
   have A25 := A_ A250
   clear A250
   obtain ⟨⟨t479, t480, t481, t484⟩, A260, H⟩ := oB_ H
   have A26 := A_ A260
   clear A260
   simp only [Option.some.injEq, Prod.mk.injEq] at H
   obtain ⟨rfl, rfl, rfl, rfl⟩ := H
   have hnb27 := NB473_474.out
   have hnc27 := NB474_473.out
   have hnb28 := NB473_475.out
   have hnc28 := NB475_473.out
   have hcz29_0 : wc.cell? ⟨gb473, 0, none⟩ = some (.int .i64 a0_0) := bc_ BK473 0 rfl
   have hcz29_1 : wc.cell? ⟨gb473, 1, none⟩ = some (.int .i64 a0_1) := bc_ BK473 1 rfl
   have hcz29_2 : wc.cell? ⟨gb473, 2, none⟩ = some (.slice A0_2 l0_2.length c0_2) := bc_ BK473 2 rfl
   have hfz29_0 := blk_frozen BK473.out 0
   have hfz29_1 := blk_frozen BK473.out 1
   have hfz29_2 := blk_frozen BK473.out 2
   have hnb30 := NB474_475.out
   have hnc30 := NB475_474.out
   have hcz31_0 : wc.cell? ⟨gb474, 0, none⟩ = some (.int .i64 a2) := bc_ BK474 0 rfl
   have hfz31_0 := blk_frozen BK474.out 0
   go_wp2_with (first | ((with_reducible refine gc_ 60 rfl ?_); refine goesL_ (some 21) rfl rfl Try.func60 kr_ rfl #[.agg #[.int .i64 a0_0, .int .i64 a0_1, .slice A0_2 l0_2.length c0_2], .slice A1 l1.length c1, .func (.func 69) #[] #[.pointer (some ⟨gb474, 0, none⟩)]] rfl mc247 ?_; (with_reducible refine (impl_editedField.calls kj3 a0_0 a0_1 _ _ l0_2 _ _ l1 t478 69 #[.pointer (some ⟨gb474, 0, none⟩)] t479 t480 t481 t484 _ ?side1 ?side2 ?side3 ?side4 ?side91 ?side92 A26.out).mono ?_); (case side91 => exact enters_of Try.func69 kr_ rfl); (case side92 => exact (mk_impl_AddToRegion_1.fn a2 t478 _ A25.out gb474 mc290)); (case side1 => exact mc200); (case side2 => exact HC0_2.out); (case side3 => exact mc205); (case side4 => exact HC1.out); rintro e w32 ⟨v482, rfl, ho0, hb⟩; refine ⟨_, rfl, ?_⟩; have HO483 := A_ (Kd.R_lower ho0 (below_size mc133)); replace BK473 := A_ (blk_below mc289 hb); replace BK474 := A_ (blk_below mc290 hb); replace BK475 := A_ (blk_below mc291 hb); replace HB := A_ (below_step mc133 hb); (try clear hb); (try clear ho0); have hcz33_0 : w32.cell? ⟨gb475, 0, none⟩ = some (.int .i64 0) := bc_ BK475 0 rfl; have hcz33_1 : w32.cell? ⟨gb475, 1, none⟩ = some (.int .i64 0) := bc_ BK475 1 rfl; have hcz33_2 : w32.cell? ⟨gb475, 2, none⟩ = some (.slice none 0 0) := bc_ BK475 2 rfl; have hfz33_0 := blk_frozen BK475.out 0; have hfz33_1 := blk_frozen BK475.out 1; have hfz33_2 := blk_frozen BK475.out 2; obtain ⟨Ao34, co34, eo34⟩ := Kd.R_slice HO483.out; subst eo34))
   refine bodyPost_ret (results_ct rfl _ _ gb475 26 #[.int .i64 t479, .int .i64 t480, .slice Ao34 t481.length co34] (0, 0) _ rfl (by (with_reducible repeat (first | refine blk_drewN ?_ _ | refine blk_drew ?_ | refine blk_alloc ?_ _)); refine blk_put (cs := #[.int .i64 t479, .int .i64 t480, .slice none 0 0]) ?_ 2 _ rfl; (with_reducible repeat (first | refine blk_drewN ?_ _ | refine blk_drew ?_ | refine blk_alloc ?_ _)); refine blk_put (cs := #[.int .i64 t479, .int .i64 0, .slice none 0 0]) ?_ 1 _ rfl; (with_reducible repeat (first | refine blk_drewN ?_ _ | refine blk_drew ?_ | refine blk_alloc ?_ _)); refine blk_put (cs := #[.int .i64 0, .int .i64 0, .slice none 0 0]) ?_ 0 _ rfl; (with_reducible repeat (first | refine blk_drewN ?_ _ | refine blk_drew ?_ | refine blk_alloc ?_ _)); exact BK475.out) Try.underlying26 rfl kr_) rfl ?_
   exact ⟨_, mc332, by (with_reducible repeat (first | apply Kd.R_alloc | apply Kd.R_drewN | apply Kd.R_drew)); exact Kd.R_mono (Kd.R_far (p := ⟨gb475, 2, none⟩) (Kd.R_far (p := ⟨gb475, 1, none⟩) (Kd.R_far (p := ⟨gb475, 0, none⟩) (Kd.R_types HO483.out BK475.out (by decide)) (fun _ hk => hk.2) (.int .i64 t479)) (fun _ hk => hk.2) (.int .i64 t480)) (fun _ hk => hk.2) (.slice Ao34 t481.length co34)) (fun _ hk => trivial), mc133⟩

end Go.Proofs.Ytdmkbfjipgaloaa.P
