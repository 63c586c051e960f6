-- Made by pp.py of this session out of the kit's print and of contracts proved by hand; Lean checks it.
import Derived.Test.YtdmkbfjipgaloaaMc
import Derived.Test.YtdmkbfjipgaloaaPx0
import Derived.Test.YtdmkbfjipgaloaaPx3
import Derived.Test.YtdmkbfjipgaloaaPx6
import Derived.Test.YtdmkbfjipgaloaaPx9
import Derived.Test.YtdmkbfjipgaloaaPx10
namespace Go.Proofs.Ytdmkbfjipgaloaa.P
open Go.RowKit Go.Proofs.YtdmkbfjipgaloaaW.PrintWords Go.Proofs.YtdmkbfjipgaloaaW.PrintLast Go.Proofs.YtdmkbfjipgaloaaW.PrintMore
attribute [local go_sem] max2_int min2_int max_two min_two max_three min_three max_four min_four   -- for this text's walks alone
set_option linter.unusedVariables false
set_option linter.unusedSimpArgs false

/-! ### spec_SetRegion: function 21 -/
mutual
def spec_SetRegion.j0 : Nat → List Int → Int → Bool → Int → Int → List Int → Option (Int × Int × List Int × Bool)
 | 0, _, _, _, _, _, _ => none
 | k + 1, x1, x2, x18, x403000, x403001, x403002 => if x18 = true then (some (0, 0, ([] : List Int), false)) else ((spec_l2Own.f x403000 x403001 x403002).bind fun bt406 => (spec_SetRegion.l0 k x1 x2 0 bt406.1 bt406.2.1 bt406.2.2))
def spec_SetRegion.l0 : Nat → List Int → Int → Int → Int → Int → List Int → Option (Int × Int × List Int × Bool)
 | 0, _, _, _, _, _, _ => none
 | k + 1, x1, x2, x9, x412000, x412001, x412002 => if x9 < (x1.length : Int) then (if 0 ≤ x9 then (if 0 ≤ (rd x1 x9) then (if (rd x1 x9) < (x412002.length : Int) then (spec_SetRegion.l0 k x1 x2 (wrap64 (x9 + 1)) x412000 x412001 (x412002.set ((rd x1 x9) : Int).toNat x2)) else (none)) else (none)) else (none)) else (some (x412000, x412001, x412002, true))
end
def spec_SetRegion.f (k : Nat) (a0_0 : Int) (a0_1 : Int) (l0_2 : List Int) (l1 : List Int) (a2 : Int) : Option (Int × Int × List Int × Bool) := (spec_l23Asked.f k a0_0 a0_1 l0_2 l1).bind fun t404 => (if t404 = true then ((spec_l2Value.f a2).bind fun t405 => (spec_SetRegion.j0 k l1 a2 (!t405) a0_0 a0_1 l0_2)) else (spec_SetRegion.j0 k l1 a2 true a0_0 a0_1 l0_2))
def spec_SetRegion.T7 : Bool × List (List Nat × List Nat) := (true, [([], []), ([0], [0]), ([], []), ([], []), ([2, 3], [2, 3]), ([4], [4]), ([], []), ([1, 5, 0, 1, 2, 3, 4, 5, 6], [1, 5]), ([7, 6, 0, 1, 2, 3, 4, 5, 6], [6, 7])])
def spec_SetRegion.B7 : List Nat := [0, 1, 0, 0, 12, 28, 0, 127, 255]
theorem spec_SetRegion.tab7 : rtab .any (opsOf Try.f21 7) = spec_SetRegion.T7 := by kernel_rfl
theorem spec_SetRegion.bits7 : waitsOk spec_SetRegion.T7.2 spec_SetRegion.B7 = true := by kernel_rfl
set_option maxHeartbeats 8000000 in
set_option maxRecDepth 100000 in
theorem spec_SetRegion.calls (k : Nat) (a0_0 : Int) (a0_1 : Int) (A0_2 : Option Addr) (c0_2 : Nat) (l0_2 : List Int) (A1 : Option Addr) (c1 : Nat) (l1 : List Int) (a2 : Int) (r1 : Int) (r2 : Int) (r3 : List Int) (r4 : Bool) (w : World) (hr0_2 : Kd.C (Kd.int .i64) w A0_2 l0_2.length l0_2) (hc0_2 : l0_2.length ≤ c0_2) (hr1 : Kd.C (Kd.int .i64) w A1 l1.length l1) (hc1 : l1.length ≤ c1) (h : spec_SetRegion.f k a0_0 a0_1 l0_2 l1 a2 = some (r1, r2, r3, r4)) :
  Calls Try.prog 21 #[.agg #[.int .i64 a0_0, .int .i64 a0_1, .slice A0_2 l0_2.length c0_2], .slice A1 l1.length c1, .int .i64 a2] w fun e w' => ∃ v2_ : Value, e = .returned (.tuple #[.agg #[.int .i64 r1, .int .i64 r2, v2_], .bool r4]) ∧ Kd.R (Kd.int .i64) 3 w' w.heap.size (fun _ => True) v2_ r3 ∧ Below w.heap.size w w' := by
 have hu26 := Try.underlying26
 have HR0_2 := A_ hr0_2
 have HC0_2 := A_ hc0_2
 clear hr0_2 hc0_2
 have HR1 := A_ hr1
 have HC1 := A_ hc1
 clear hr1 hc1
 have HB := A_ (Below.refl w.heap.size w)
 have H : ((spec_l23Asked.f k a0_0 a0_1 l0_2 l1).bind fun t404 => (if t404 = true then ((spec_l2Value.f a2).bind fun t405 => (spec_SetRegion.j0 k l1 a2 (!t405) a0_0 a0_1 l0_2)) else (spec_SetRegion.j0 k l1 a2 true a0_0 a0_1 l0_2))) = some (r1, r2, r3, r4) := h
 clear h
 have HC4 := A_ H
 clear H
 go_enter Try.func21, Try.ntmps21
 go_upto_region 1 with (first | ((with_reducible refine gd_ 3 rfl ?_); refine box_event rfl (N := 3) rfl (cs := #[.int .i64 a0_0, .int .i64 a0_1, .slice A0_2 l0_2.length c0_2]) (t := 26) mc353 ?_; intro gb402 hg w5 hbox hb; have BK402 := A_ (hbox); have GW402 := A_ ((mc213 : w.heap.size ≤ gb402)); have GE402 := A_ ((mc213 : w.heap.size ≤ gb402)); replace HB := A_ (below_step mc249 hb); clear hb hbox hg) | ((with_reducible refine gd_ 6 rfl ?_); refine box_event rfl (N := 6) rfl (cs := #[.int .i64 0, .int .i64 0, .slice none 0 0]) (t := 26) mc353 ?_; intro gb403 hg w6 hbox hb; have BK403 := A_ (hbox); have GW403 := A_ ((mc170 : w.heap.size ≤ gb403)); have GE403 := A_ ((mc170 : w.heap.size ≤ gb403)); replace HB := A_ (below_step mc222 hb); have NB402_403 := A_ ((by rw [hg]; exact Nat.ne_of_lt (blk_lt mc276) : gb402 ≠ gb403)); have NB403_402 := A_ ((by rw [hg]; exact Nat.ne_of_gt (blk_lt mc276) : gb403 ≠ gb402)); replace BK402 := A_ (blk_below mc276 hb); clear hb hbox hg))
 (try simp only [Act.put, List.setIfInBounds_toArray, List.set_cons_zero, List.set_cons_succ])
 go_cut [18] (fun v18 wc => ∃ (kq : Nat) (x18_3 : Bool), v18 = .bool x18_3 ∧ Aside0 (spec_SetRegion.j0 kq l1 a2 x18_3 a0_0 a0_1 l0_2 = some (r1, r2, r3, r4)) ∧ Aside0 (kq ≤ k) ∧ Aside0 (wc.heap[gb402]? = some (.cells #[.int .i64 a0_0, .int .i64 a0_1, (.slice A0_2 l0_2.length c0_2)] 26 (0, 0))) ∧ Aside0 (wc.heap[gb403]? = some (.cells #[.int .i64 0, .int .i64 0, (.slice none 0 0)] 26 (0, 0))) ∧ Aside0 (Below w.heap.size w wc))
 case first =>
  have H := HC4.out
  clear HC4
  obtain ⟨t404, A70, H⟩ := oB_ H
  have A7 := A_ A70
  clear A70
  by_cases c8 : t404 = true
  rotate_left
  ·
   replace c8 := Bool.eq_false_iff.mpr c8
   subst c8
   rw [if_neg (show ¬ (false = true) by decide)] at H
   have H' := A_ H
   clear H
   have hnb13 := NB402_403.out
   have hnc13 := NB403_402.out
   have hcz14_0 : w6.cell? ⟨gb402, 0, none⟩ = some (.int .i64 a0_0) := bc_ BK402 0 rfl
   have hcz14_1 : w6.cell? ⟨gb402, 1, none⟩ = some (.int .i64 a0_1) := bc_ BK402 1 rfl
   have hcz14_2 : w6.cell? ⟨gb402, 2, none⟩ = some (.slice A0_2 l0_2.length c0_2) := bc_ BK402 2 rfl
   have hfz14_0 := blk_frozen BK402.out 0
   have hfz14_1 := blk_frozen BK402.out 1
   have hfz14_2 := blk_frozen BK402.out 2
   go_wp2_with (first | ((with_reducible refine gc_ 55 rfl ?_); refine goesL_ (some 12) rfl rfl Try.func55 kr_ rfl #[.agg #[.int .i64 a0_0, .int .i64 a0_1, .slice A0_2 l0_2.length c0_2], .slice A1 l1.length c1] rfl mc247 ?_; (with_reducible refine (spec_l23Asked.calls k a0_0 a0_1 _ _ l0_2 _ _ l1 false _ ?side1 ?side2 ?side3 ?side4 A7.out).mono ?_); (case side1 => exact mc200); (case side2 => exact HC0_2.out); (case side3 => exact mc205); (case side4 => exact HC1.out); rintro e w15 ⟨rfl, hb⟩; refine ⟨_, rfl, ?_⟩; replace BK402 := A_ (blk_below mc276 hb); replace BK403 := A_ (blk_below mc277 hb); replace HB := A_ (below_step mc184 hb); (try clear hb)))
   go_meet
   case rel => exact ⟨_, (true), mc352, H', ⟨mc355⟩, ⟨mc276⟩, ⟨mc277⟩, ⟨mc184⟩⟩
  subst c8
  rw [if_pos rfl] at H
  obtain ⟨t405, A90, H⟩ := oB_ H
  have A9 := A_ A90
  clear A90
  have H' := A_ H
  clear H
  have hnb10 := NB402_403.out
  have hnc10 := NB403_402.out
  have hcz11_0 : w6.cell? ⟨gb402, 0, none⟩ = some (.int .i64 a0_0) := bc_ BK402 0 rfl
  have hcz11_1 : w6.cell? ⟨gb402, 1, none⟩ = some (.int .i64 a0_1) := bc_ BK402 1 rfl
  have hcz11_2 : w6.cell? ⟨gb402, 2, none⟩ = some (.slice A0_2 l0_2.length c0_2) := bc_ BK402 2 rfl
  have hfz11_0 := blk_frozen BK402.out 0
  have hfz11_1 := blk_frozen BK402.out 1
  have hfz11_2 := blk_frozen BK402.out 2
  go_wp2_with (first | ((with_reducible refine gc_ 55 rfl ?_); refine goesL_ (some 12) rfl rfl Try.func55 kr_ rfl #[.agg #[.int .i64 a0_0, .int .i64 a0_1, .slice A0_2 l0_2.length c0_2], .slice A1 l1.length c1] rfl mc247 ?_; (with_reducible refine (spec_l23Asked.calls k a0_0 a0_1 _ _ l0_2 _ _ l1 true _ ?side1 ?side2 ?side3 ?side4 A7.out).mono ?_); (case side1 => exact mc200); (case side2 => exact HC0_2.out); (case side3 => exact mc205); (case side4 => exact HC1.out); rintro e w12 ⟨rfl, hb⟩; refine ⟨_, rfl, ?_⟩; replace BK402 := A_ (blk_below mc276 hb); replace BK403 := A_ (blk_below mc277 hb); replace HB := A_ (below_step mc184 hb); (try clear hb)) | (go_at_call 56; (with_reducible refine (spec_l2Value.calls a2 t405 _ A9.out).mono ?_); rintro e w' ⟨rfl, ⟨nd, rfl⟩⟩))
  go_meet
  case rel => exact ⟨_, (!t405), mc352, H', ⟨mc355⟩, ⟨mc276⟩, ⟨mc277⟩, ⟨mc184⟩⟩
 case rest =>
  clear HC4
  try clear p2
  obtain ⟨kq, x18_3, rfl, HA, HJ3, BK402, BK403, HB⟩ := hcut
  cases kq with
  | zero => exact absurd HA.out (by simp [spec_SetRegion.j0])
  | succ kj3 =>
   have H := HA.out
   clear HA
   simp only [spec_SetRegion.j0] at H
   by_cases c16 : x18_3 = true
   ·
    subst c16
    rw [if_pos rfl] at H
    simp only [Option.some.injEq, Prod.mk.injEq] at H
    obtain ⟨rfl, rfl, rfl, rfl⟩ := H
    have hnb17 := NB403_402.out
    have hnc17 := NB402_403.out
    have hcz18_0 : wc.cell? ⟨gb403, 0, none⟩ = some (.int .i64 0) := bc_ BK403 0 rfl
    have hcz18_1 : wc.cell? ⟨gb403, 1, none⟩ = some (.int .i64 0) := bc_ BK403 1 rfl
    have hcz18_2 : wc.cell? ⟨gb403, 2, none⟩ = some (.slice none 0 0) := bc_ BK403 2 rfl
    have hfz18_0 := blk_frozen BK403.out 0
    have hfz18_1 := blk_frozen BK403.out 1
    have hfz18_2 := blk_frozen BK403.out 2
    go_wp2
    refine bodyPost_ret (results_ct rfl _ _ gb403 26 #[.int .i64 0, .int .i64 0, .slice none 0 0] (0, 0) _ rfl (by (with_reducible repeat (first | refine blk_drewN ?_ _ | refine blk_drew ?_ | refine blk_alloc ?_ _)); refine blk_put (cs := #[.int .i64 0, .int .i64 0, .slice none 0 0]) ?_ 2 _ rfl; (with_reducible repeat (first | refine blk_drewN ?_ _ | refine blk_drew ?_ | refine blk_alloc ?_ _)); refine blk_put (cs := #[.int .i64 0, .int .i64 0, .slice none 0 0]) ?_ 1 _ rfl; (with_reducible repeat (first | refine blk_drewN ?_ _ | refine blk_drew ?_ | refine blk_alloc ?_ _)); refine blk_put (cs := #[.int .i64 0, .int .i64 0, .slice none 0 0]) ?_ 0 _ rfl; (with_reducible repeat (first | refine blk_drewN ?_ _ | refine blk_drew ?_ | refine blk_alloc ?_ _)); exact BK403.out) Try.underlying26 rfl kr_) rfl ?_
    exact ⟨_, mc332, mc246, mc184⟩
   replace c16 := Bool.eq_false_iff.mpr c16
   subst c16
   rw [if_neg (show ¬ (false = true) by decide)] at H
   obtain ⟨⟨t406, t407, t408⟩, A190, H⟩ := oB_ H
   have A19 := A_ A190
   clear A190
   have H' := A_ H
   clear H
   have hnb20 := NB402_403.out
   have hnc20 := NB403_402.out
   have hcz21_0 : wc.cell? ⟨gb402, 0, none⟩ = some (.int .i64 a0_0) := bc_ BK402 0 rfl
   have hcz21_1 : wc.cell? ⟨gb402, 1, none⟩ = some (.int .i64 a0_1) := bc_ BK402 1 rfl
   have hcz21_2 : wc.cell? ⟨gb402, 2, none⟩ = some (.slice A0_2 l0_2.length c0_2) := bc_ BK402 2 rfl
   have hfz21_0 := blk_frozen BK402.out 0
   have hfz21_1 := blk_frozen BK402.out 1
   have hfz21_2 := blk_frozen BK402.out 2
   go_wp2_with (first | ((with_reducible refine gc_ 57 rfl ?_); refine goesL_ (some 21) rfl rfl Try.func57 kr_ rfl #[.agg #[.int .i64 a0_0, .int .i64 a0_1, .slice A0_2 l0_2.length c0_2]] rfl mc247 ?_; (with_reducible refine (spec_l2Own.calls a0_0 a0_1 _ _ l0_2 t406 t407 t408 _ ?side1 ?side2 A19.out).mono ?_); (case side1 => exact mc200); (case side2 => exact HC0_2.out); rintro e w22 ⟨v409, rfl, ho0, hb⟩; refine ⟨_, rfl, ?_⟩; have HO410 := A_ (Kd.R_lower ho0 (below_size mc184)); replace BK402 := A_ (blk_below mc276 hb); replace BK403 := A_ (blk_below mc277 hb); replace HB := A_ (below_step mc184 hb); (try clear hb); (try clear ho0)) | ((with_reducible refine gd_ 8 rfl ?_); refine box_event rfl (N := 8) rfl (cs := #[.int .i64 0, .int .i64 0, .slice none 0 0]) (t := 26) mc353 ?_; intro gb411 hg w23 hbox hb; replace HO410 := A_ (Kd.R_below (by (with_reducible repeat (first | apply Kd.R_alloc | apply Kd.R_drewN | apply Kd.R_drew)); exact HO410.out) hb); have BK411 := A_ (hbox); have GW411 := A_ ((mc124 : w.heap.size ≤ gb411)); have GE411 := A_ ((mc124 : w.heap.size ≤ gb411)); replace HB := A_ (below_step mc184 hb); have NB402_411 := A_ ((by rw [hg]; exact Nat.ne_of_lt (blk_lt mc276) : gb402 ≠ gb411)); have NB411_402 := A_ ((by rw [hg]; exact Nat.ne_of_gt (blk_lt mc276) : gb411 ≠ gb402)); replace BK402 := A_ (blk_below mc276 hb); have NB403_411 := A_ ((by rw [hg]; exact Nat.ne_of_lt (blk_lt mc277) : gb403 ≠ gb411)); have NB411_403 := A_ ((by rw [hg]; exact Nat.ne_of_gt (blk_lt mc277) : gb411 ≠ gb403)); replace BK403 := A_ (blk_below mc277 hb); clear hb hbox hg; have hnb24 := NB411_402.out; have hnc24 := NB402_411.out; have hnb25 := NB411_403.out; have hnc25 := NB403_411.out; have hcz26_0 : w23.cell? ⟨gb411, 0, none⟩ = some (.int .i64 0) := bc_ BK411 0 rfl; have hcz26_1 : w23.cell? ⟨gb411, 1, none⟩ = some (.int .i64 0) := bc_ BK411 1 rfl; have hcz26_2 : w23.cell? ⟨gb411, 2, none⟩ = some (.slice none 0 0) := bc_ BK411 2 rfl; have hfz26_0 := blk_frozen BK411.out 0; have hfz26_1 := blk_frozen BK411.out 1; have hfz26_2 := blk_frozen BK411.out 2; obtain ⟨Ao27, co27, eo27⟩ := Kd.R_slice HO410.out; subst eo27))
   go_loopg [9] kj3 (fun kq v9 w' => ∃ (x9_2 : Int) (x412002_2 : List Int) (u412002 : Value), v9 = .int .i64 x9_2 ∧ Aside0 (spec_SetRegion.l0 kq l1 a2 x9_2 t406 t407 x412002_2 = some (r1, r2, r3, r4)) ∧ Aside0 (kq ≤ kj3) ∧ Aside0 (Kd.R (Kd.int .i64) 3 w' w.heap.size (fun _ => True) u412002 x412002_2) ∧ Aside0 (w'.heap[gb402]? = some (.cells #[.int .i64 a0_0, .int .i64 a0_1, (.slice A0_2 l0_2.length c0_2)] 26 (0, 0))) ∧ Aside0 (w'.heap[gb403]? = some (.cells #[.int .i64 0, .int .i64 0, (.slice none 0 0)] 26 (0, 0))) ∧ Aside0 (w'.heap[gb411]? = some (.cells #[.int .i64 t406, .int .i64 t407, u412002] 26 (0, 0))) ∧ Aside0 (Below w.heap.size w w'))
   case atStart => exact ⟨(0), (t408), (.slice Ao27 t408.length co27), mc352, H', ⟨Nat.le_refl _⟩, ⟨by (with_reducible repeat (first | apply Kd.R_alloc | apply Kd.R_drewN | apply Kd.R_drew)); exact Kd.R_mono (Kd.R_far (p := ⟨gb411, 2, none⟩) (Kd.R_far (p := ⟨gb411, 1, none⟩) (Kd.R_far (p := ⟨gb411, 0, none⟩) (Kd.R_types HO410.out BK411.out (by decide)) (fun _ hk => hk.2) (.int .i64 t406)) (fun _ hk => hk.2) (.int .i64 t407)) (fun _ hk => hk.2) (.slice Ao27 t408.length co27)) (fun _ hk => trivial)⟩, ⟨by (with_reducible repeat (first | refine blk_drewN ?_ _ | refine blk_drew ?_ | refine blk_alloc ?_ _)); refine blk_far ?_ NB402_411.out _; (with_reducible repeat (first | refine blk_drewN ?_ _ | refine blk_drew ?_ | refine blk_alloc ?_ _)); refine blk_far ?_ NB402_411.out _; (with_reducible repeat (first | refine blk_drewN ?_ _ | refine blk_drew ?_ | refine blk_alloc ?_ _)); refine blk_far ?_ NB402_411.out _; (with_reducible repeat (first | refine blk_drewN ?_ _ | refine blk_drew ?_ | refine blk_alloc ?_ _)); exact BK402.out⟩, ⟨by (with_reducible repeat (first | refine blk_drewN ?_ _ | refine blk_drew ?_ | refine blk_alloc ?_ _)); refine blk_far ?_ NB403_411.out _; (with_reducible repeat (first | refine blk_drewN ?_ _ | refine blk_drew ?_ | refine blk_alloc ?_ _)); refine blk_far ?_ NB403_411.out _; (with_reducible repeat (first | refine blk_drewN ?_ _ | refine blk_drew ?_ | refine blk_alloc ?_ _)); refine blk_far ?_ NB403_411.out _; (with_reducible repeat (first | refine blk_drewN ?_ _ | refine blk_drew ?_ | refine blk_alloc ?_ _)); exact BK403.out⟩, ⟨by (with_reducible repeat (first | refine blk_drewN ?_ _ | refine blk_drew ?_ | refine blk_alloc ?_ _)); refine blk_put (cs := #[.int .i64 t406, .int .i64 t407, .slice none 0 0]) ?_ 2 _ rfl; (with_reducible repeat (first | refine blk_drewN ?_ _ | refine blk_drew ?_ | refine blk_alloc ?_ _)); refine blk_put (cs := #[.int .i64 t406, .int .i64 0, .slice none 0 0]) ?_ 1 _ rfl; (with_reducible repeat (first | refine blk_drewN ?_ _ | refine blk_drew ?_ | refine blk_alloc ?_ _)); refine blk_put (cs := #[.int .i64 0, .int .i64 0, .slice none 0 0]) ?_ 0 _ rfl; (with_reducible repeat (first | refine blk_drewN ?_ _ | refine blk_drew ?_ | refine blk_alloc ?_ _)); exact BK411.out⟩, ⟨mc136⟩⟩
   case round =>
    clear H'
    try clear p2
    try clear p2
    obtain ⟨x9_2, x412002_2, u412002, rfl, HA, HK2, HO_412002, BK402, BK403, BK411, HB⟩ := hrel
    cases gk with
    | zero => exact absurd HA.out (by simp [spec_SetRegion.l0])
    | succ k2 =>
     have H := HA.out
     clear HA
     simp only [spec_SetRegion.l0] at H
     by_cases c28 : x9_2 < (l1.length : Int)
     rotate_left
     ·
      rw [if_neg c28] at H
      have c28b0 : decide (x9_2 < (l1.length : Int)) = false := decide_eq_false c28
      clear c28
      simp only [Option.some.injEq, Prod.mk.injEq] at H
      obtain ⟨rfl, rfl, rfl, rfl⟩ := H
      have hnb35 := NB411_402.out
      have hnc35 := NB402_411.out
      have hnb36 := NB411_403.out
      have hnc36 := NB403_411.out
      have hcz37_0 : wr.cell? ⟨gb411, 0, none⟩ = some (.int .i64 t406) := bc_ BK411 0 rfl
      have hcz37_1 : wr.cell? ⟨gb411, 1, none⟩ = some (.int .i64 t407) := bc_ BK411 1 rfl
      have hcz37_2 : wr.cell? ⟨gb411, 2, none⟩ = some (u412002) := bc_ BK411 2 rfl
      have hfz37_0 := blk_frozen BK411.out 0
      have hfz37_1 := blk_frozen BK411.out 1
      have hfz37_2 := blk_frozen BK411.out 2
      have hnb38 := NB403_402.out
      have hnc38 := NB402_403.out
      have hcz39_0 : wr.cell? ⟨gb403, 0, none⟩ = some (.int .i64 0) := bc_ BK403 0 rfl
      have hcz39_1 : wr.cell? ⟨gb403, 1, none⟩ = some (.int .i64 0) := bc_ BK403 1 rfl
      have hcz39_2 : wr.cell? ⟨gb403, 2, none⟩ = some (.slice none 0 0) := bc_ BK403 2 rfl
      have hfz39_0 := blk_frozen BK403.out 0
      have hfz39_1 := blk_frozen BK403.out 1
      have hfz39_2 := blk_frozen BK403.out 2
      obtain ⟨Ao40, co40, eo40⟩ := Kd.R_slice HO_412002.out
      subst eo40
      go_wp2
      refine bodyPost_ret (results_ct rfl _ _ gb403 26 #[.int .i64 t406, .int .i64 t407, .slice Ao40 x412002_2.length co40] (0, 0) _ rfl (by (with_reducible repeat (first | refine blk_drewN ?_ _ | refine blk_drew ?_ | refine blk_alloc ?_ _)); refine blk_put (cs := #[.int .i64 t406, .int .i64 t407, .slice none 0 0]) ?_ 2 _ rfl; (with_reducible repeat (first | refine blk_drewN ?_ _ | refine blk_drew ?_ | refine blk_alloc ?_ _)); refine blk_put (cs := #[.int .i64 t406, .int .i64 0, .slice none 0 0]) ?_ 1 _ rfl; (with_reducible repeat (first | refine blk_drewN ?_ _ | refine blk_drew ?_ | refine blk_alloc ?_ _)); refine blk_put (cs := #[.int .i64 0, .int .i64 0, .slice none 0 0]) ?_ 0 _ rfl; (with_reducible repeat (first | refine blk_drewN ?_ _ | refine blk_drew ?_ | refine blk_alloc ?_ _)); exact BK403.out) Try.underlying26 rfl kr_) rfl ?_
      exact ⟨_, mc332, by (with_reducible repeat (first | apply Kd.R_alloc | apply Kd.R_drewN | apply Kd.R_drew)); exact Kd.R_mono (Kd.R_far (p := ⟨gb403, 2, none⟩) (Kd.R_far (p := ⟨gb403, 1, none⟩) (Kd.R_far (p := ⟨gb403, 0, none⟩) (Kd.R_types HO_412002.out BK403.out (by decide)) (fun _ hk => hk.2) (.int .i64 t406)) (fun _ hk => hk.2) (.int .i64 t407)) (fun _ hk => hk.2) (.slice Ao40 x412002_2.length co40)) (fun _ hk => trivial), mc136⟩
     rw [if_pos c28] at H
     have c28b0 : decide (x9_2 < (l1.length : Int)) = true := decide_eq_true c28
     clear c28
     by_cases c29 : 0 ≤ x9_2
     rotate_left
     ·
      rw [if_neg c29] at H
      exact absurd H (by simp)
     rw [if_pos c29] at H
     have c29b0 : decide (0 ≤ x9_2) = true := decide_eq_true c29
     clear c29
     by_cases c30 : 0 ≤ (rd l1 x9_2)
     rotate_left
     ·
      rw [if_neg c30] at H
      exact absurd H (by simp)
     rw [if_pos c30] at H
     have c30b0 : decide (0 ≤ (rd l1 x9_2)) = true := decide_eq_true c30
     clear c30
     by_cases c31 : (rd l1 x9_2) < (x412002_2.length : Int)
     rotate_left
     ·
      rw [if_neg c31] at H
      exact absurd H (by simp)
     rw [if_pos c31] at H
     have c31b0 : decide ((rd l1 x9_2) < (x412002_2.length : Int)) = true := decide_eq_true c31
     clear c31
     obtain ⟨y413, hy413⟩ : ∃ y_ : List Int, y_ = (x412002_2.set ((rd l1 x9_2) : Int).toNat a2) := ⟨_, rfl⟩
     replace H : (spec_SetRegion.l0 k2 l1 a2 (wrap64 (x9_2 + 1)) t406 t407 y413) = some (r1, r2, r3, r4) := by first | (rw [hy413]; with_reducible exact H) | (have H2_ := (Option.bind_some _ _).symm.trans H; rw [hy413]; with_reducible exact H2_) | (have H2_ := (Option.bind_some _ _).symm.trans H; with_reducible exact H2_) | with_reducible exact H | (rw [hy413]; exact H) | exact H
     have Ny413 := A_ hy413
     clear hy413
     have H' := A_ H
     clear H
     try go_wp2
     replace HO_412002 := A_ (Kd.R_drew HO_412002.out)
     replace BK402 := A_ (blk_drew BK402.out)
     replace BK403 := A_ (blk_drew BK403.out)
     replace BK411 := A_ (blk_drew BK411.out)
     replace HB := A_ (below_drew1 HB.out)
     have p412 : 0 ≤ (x9_2 : Int) := of_decide_eq_true mc341
     have q412 : x9_2 < (l1.length : Int) := of_decide_eq_true mc341
     obtain ⟨ad412, e412, hx412_0⟩ := Kd.at_int HR1.out x9_2 p412 q412
     have hw412_0 := hx412_0
     cases e412
     replace hx412_0 := (HB.out.cell (World.block_lt_of_cell? w _ hx412_0)).trans hx412_0
     replace p412 := eq_true p412
     replace q412 := eq_true q412
     have p32 : 0 ≤ ((rd l1 x9_2) : Int) := of_decide_eq_true mc341
     have q32 : ((rd l1 x9_2) : Int) < ((x412002_2.length : Int) : Int) := of_decide_eq_true mc341
     obtain ⟨go32, co32, eo32, gb32, gl32, cl32, HG32⟩ := Kd.R_form HO_412002.out (by omega)
     (first | cases eo32 | (injection eo32 with ea_ en_ ec_; (first | subst ea_ | (injection ea_ with ea_; subst ea_)); subst ec_; clear en_))
     have GB32 := A_ gb32
     have GG32 := A_ HG32
     clear gb32 gl32 HG32
     obtain ⟨hx32_0, hf32_0⟩ := Kd.R_celln 0 HO_412002.out ((rd l1 x9_2) : Int) p32 q32
     replace p32 := eq_true p32
     replace q32 := eq_true q32
     have HP34 := Kd.R_putn HO_412002.out ((rd l1 x9_2) : Int) a2
     rw [← Ny413.out] at HP34
     have HQ34 := A_ HP34
     clear HP34
     refine start_ (n := 9) (S := fun w' => w'.cell? ⟨gb411, 0, none⟩ = some (.int .i64 t406) ∧ w'.cell? ⟨gb411, 1, none⟩ = some (.int .i64 t407) ∧ w'.cell? ⟨gb411, 2, none⟩ = some (.slice (some ⟨go32, 0, none⟩) x412002_2.length co32) ∧ w'.cell? (ad412.add (x9_2).toNat) = some (.int .i64 (rd l1 x9_2))) (ds := [8]) #[false, false, false, false, false, false, false, false, false] kr_ rfl rfl ⟨bc_ BK411 0 rfl, bc_ BK411 1 rfl, bc_ BK411 2 rfl, ((HB.out.cell (World.block_lt_of_cell? w _ hw412_0)).trans hw412_0)⟩ (fun hHeld => ?_); refine with_tabW spec_SetRegion.tab7 spec_SetRegion.bits7 (fun HT_ HW_ => ?_)
     generalize wr.drew = w33 at HO_412002 BK402 BK403 BK411 HB GG32 HQ34 hf32_0 hx32_0 hx412_0 hHeld ⊢
     refine pure_ (i := 0) (N := some 28) #[true, false, false, false, false, false, false, false, false] rfl rfl (any_of HT_.out kr_) (fun _ _ _ h => h) (Or.inl ⟨by rfl, mc354⟩) mc312 ?_
     refine pure_ (i := 2) (N := some 30) #[true, false, true, false, false, false, false, false, false] rfl rfl (any_of HT_.out kr_) (fun _ _ _ h => h) (Or.inl ⟨by rfl, mc354⟩) mc312 ?_
     refine pure_ (i := 3) (N := some 31) #[true, false, true, true, false, false, false, false, false] rfl rfl (any_of HT_.out kr_) (fun _ _ _ h => h) (Or.inl ⟨by rfl, mc354⟩) mc312 ?_
     refine pure_ (i := 4) (N := some 32) #[true, false, true, true, true, false, false, false, false] rfl rfl (any_of HT_.out kr_) (fun _ _ _ h => h) (Or.inl ⟨by rfl, mc354⟩) mc312 ?_
     refine pure_ (i := 6) (N := some 34) #[true, false, true, true, true, false, true, false, false] rfl rfl (any_of HT_.out kr_) (fun _ _ _ h => h) (Or.inl ⟨by rfl, mc354⟩) mc312 ?_
     refine take_ (i := 1) (N := some 29) #[true, true, true, true, true, false, true, false, false] rfl rfl (take_ofW HT_.out HW_.out kr_) (fun _ _ _ h => h) (Or.inl ⟨by rfl, mc339⟩) hHeld mc312 ?_
     refine take_ (i := 5) (N := some 33) #[true, true, true, true, true, true, true, false, false] rfl rfl (take_ofW HT_.out HW_.out kr_) (fun _ _ _ h => h) (Or.inl ⟨by rfl, mc339⟩) hHeld mc312 ?_
     refine pure_ (i := 7) (N := some 35) #[true, true, true, true, true, true, true, true, false] rfl rfl (any_of HT_.out kr_) (fun _ _ _ h => h) (Or.inl ⟨by rfl, mc354⟩) mc312 ?_
     refine last_ (i := 8) (N := none) #[true, true, true, true, true, true, true, true, true] rfl rfl (one_of HT_.out kr_) (by decide) (fun K hK => ?_)
     refine skip_ (w1 := ?_) (by rfl) rfl ?_ ?_
     rotate_left
     ·
      go_simp
      rfl
     refine hK.out _ _ ?_
     clear hK K
     refine done_ (done_of HT_.out kr_) ?_
     try go_wp2
     go_roundg k2
     case measure => have := HJ3.out; have := HK2.out; omega
     case rel => exact ⟨(wrap64 (x9_2 + 1)), (y413), (.slice (some ⟨go32, 0, none⟩) x412002_2.length co32), mc352, H', ⟨by have := HJ3.out; have := HK2.out; omega⟩, ⟨by (with_reducible repeat (first | apply Kd.R_alloc | apply Kd.R_drewN | apply Kd.R_drew)); exact HQ34.out⟩, ⟨by (with_reducible repeat (first | refine blk_drewN ?_ _ | refine blk_drew ?_ | refine blk_alloc ?_ _)); refine blk_far ?_ (by have h_ := Kd.R_ne HO_412002.out BK402.out (by decide); intro e_; exact h_ mc357) _; (with_reducible repeat (first | refine blk_drewN ?_ _ | refine blk_drew ?_ | refine blk_alloc ?_ _)); exact BK402.out⟩, ⟨by (with_reducible repeat (first | refine blk_drewN ?_ _ | refine blk_drew ?_ | refine blk_alloc ?_ _)); refine blk_far ?_ (by have h_ := Kd.R_ne HO_412002.out BK403.out (by decide); intro e_; exact h_ mc357) _; (with_reducible repeat (first | refine blk_drewN ?_ _ | refine blk_drew ?_ | refine blk_alloc ?_ _)); exact BK403.out⟩, ⟨by (with_reducible repeat (first | refine blk_drewN ?_ _ | refine blk_drew ?_ | refine blk_alloc ?_ _)); refine blk_far ?_ (by have h_ := Kd.R_ne HO_412002.out BK411.out (by decide); intro e_; exact h_ mc357) _; (with_reducible repeat (first | refine blk_drewN ?_ _ | refine blk_drew ?_ | refine blk_alloc ?_ _)); exact BK411.out⟩, ⟨by repeat (first | (with_reducible first | exact HB.out | apply below_alloc | apply pw_below_drewN | apply below_drew1 | refine below_set ?_ GB32.out | refine below_set ?_ GE402.out | refine below_set ?_ GE403.out | refine below_set ?_ GE411.out) | exact HB.out)⟩⟩

/-! ### impl_SetRegion: function 24 -/

set_option maxHeartbeats 1000000
def mk_impl_SetRegion_1.f (v : Int) : Option (Int → Int → Option Int) := some fun _ _ => some v
theorem mk_impl_SetRegion_1.fn (v : Int) (F : Int → Int → Option Int) (w : World) (h : mk_impl_SetRegion_1.f v = some F) (g : Nat) (b : w.heap[g]? = some (.cells #[.int .i64 v] 3 (0, 0))) : ∀ W_ : World, Below w.heap.size w W_ → ∀ c0_ c1_ r_, F c0_ c1_ = some r_ → Calls Try.prog 61 (#[.int .i64 c0_, .int .i64 c1_] ++ #[.pointer (some ⟨g, 0, none⟩)]) W_ fun e w' => e = .returned (.int .i64 r_) ∧ Drawn0 W_ w' := by
 intro W hB c0 c1 r hr
 have b1 := blk_below b hB
 have hcz : W.cell? ⟨g, 0, none⟩ = some (.int .i64 v) := (blk_cell b1 0).trans rfl
 have hfz := blk_frozen b1 0
 obtain rfl := Option.some.inj h
 obtain rfl := Option.some.inj hr
 clear b b1 hB h hr
 show Calls Try.prog 61 #[.int .i64 c0, .int .i64 c1, .pointer (some ⟨g, 0, none⟩)] W fun e w' => e = .returned (.int .i64 v) ∧ Drawn0 W w'
 go_enter Try.func61, Try.ntmps61
 go_wp2
 go_ret
 exact ⟨rfl, mc338⟩
def impl_SetRegion.j0 : Nat → List Int → Bool → Int → Int → List Int → Int → Option (Int × Int × List Int × Bool)
 | 0, _, _, _, _, _, _ => none
 | k + 1, x1, x16, x415000, x415001, x415002, x416000 => if x16 = true then (some (0, 0, ([] : List Int), false)) else ((mk_impl_SetRegion_1.f x416000).bind fun t419 => ((impl_editedField.f k x415000 x415001 x415002 x1 t419).bind fun bt420 => (some (bt420.1, bt420.2.1, bt420.2.2.1, bt420.2.2.2))))
def impl_SetRegion.f (k : Nat) (a0_0 : Int) (a0_1 : Int) (l0_2 : List Int) (l1 : List Int) (a2 : Int) : Option (Int × Int × List Int × Bool) := (impl_isRegionOf.f k a0_0 a0_1 l0_2 l1).bind fun t417 => (if t417 = true then ((impl_isCell.f a2).bind fun t418 => (impl_SetRegion.j0 k l1 (!t418) a0_0 a0_1 l0_2 a2)) else (impl_SetRegion.j0 k l1 true a0_0 a0_1 l0_2 a2))
set_option maxHeartbeats 8000000 in
set_option maxRecDepth 100000 in
theorem impl_SetRegion.calls (k : Nat) (a0_0 : Int) (a0_1 : Int) (A0_2 : Option Addr) (c0_2 : Nat) (l0_2 : List Int) (A1 : Option Addr) (c1 : Nat) (l1 : List Int) (a2 : Int) (r1 : Int) (r2 : Int) (r3 : List Int) (r4 : Bool) (w : World) (hr0_2 : Kd.C (Kd.int .i64) w A0_2 l0_2.length l0_2) (hc0_2 : l0_2.length ≤ c0_2) (hr1 : Kd.C (Kd.int .i64) w A1 l1.length l1) (hc1 : l1.length ≤ c1) (h : impl_SetRegion.f k a0_0 a0_1 l0_2 l1 a2 = some (r1, r2, r3, r4)) :
  Calls Try.prog 24 #[.agg #[.int .i64 a0_0, .int .i64 a0_1, .slice A0_2 l0_2.length c0_2], .slice A1 l1.length c1, .int .i64 a2] w fun e w' => ∃ v2_ : Value, e = .returned (.tuple #[.agg #[.int .i64 r1, .int .i64 r2, v2_], .bool r4]) ∧ Kd.R (Kd.int .i64) 3 w' w.heap.size (fun _ => True) v2_ r3 ∧ Below w.heap.size w w' := by
 have hu26 := Try.underlying26
 have HR0_2 := A_ hr0_2
 have HC0_2 := A_ hc0_2
 clear hr0_2 hc0_2
 have HR1 := A_ hr1
 have HC1 := A_ hc1
 clear hr1 hc1
 have HB := A_ (Below.refl w.heap.size w)
 have H : ((impl_isRegionOf.f k a0_0 a0_1 l0_2 l1).bind fun t417 => (if t417 = true then ((impl_isCell.f a2).bind fun t418 => (impl_SetRegion.j0 k l1 (!t418) a0_0 a0_1 l0_2 a2)) else (impl_SetRegion.j0 k l1 true a0_0 a0_1 l0_2 a2))) = some (r1, r2, r3, r4) := h
 clear h
 have HC4 := A_ H
 clear H
 go_enter Try.func24, Try.ntmps24
 go_upto_region 1 with (first | ((with_reducible refine gd_ 3 rfl ?_); refine box_event rfl (N := 3) rfl (cs := #[.int .i64 a0_0, .int .i64 a0_1, .slice A0_2 l0_2.length c0_2]) (t := 26) mc353 ?_; intro gb414 hg w5 hbox hb; have BK414 := A_ (hbox); have GW414 := A_ ((mc213 : w.heap.size ≤ gb414)); have GE414 := A_ ((mc213 : w.heap.size ≤ gb414)); replace HB := A_ (below_step mc249 hb); clear hb hbox hg) | ((with_reducible refine gd_ 5 rfl ?_); refine box_event rfl (N := 5) rfl (cs := #[.int .i64 a2]) (t := 3) mc353 ?_; intro gb415 hg w6 hbox hb; have BK415 := A_ (hbox); have GW415 := A_ ((mc171 : w.heap.size ≤ gb415)); have GE415 := A_ ((mc171 : w.heap.size ≤ gb415)); replace HB := A_ (below_step mc223 hb); have NB414_415 := A_ ((by rw [hg]; exact Nat.ne_of_lt (blk_lt mc278) : gb414 ≠ gb415)); have NB415_414 := A_ ((by rw [hg]; exact Nat.ne_of_gt (blk_lt mc278) : gb415 ≠ gb414)); replace BK414 := A_ (blk_below mc278 hb); clear hb hbox hg) | ((with_reducible refine gd_ 6 rfl ?_); refine box_event rfl (N := 6) rfl (cs := #[.int .i64 0, .int .i64 0, .slice none 0 0]) (t := 26) mc353 ?_; intro gb416 hg w7 hbox hb; have BK416 := A_ (hbox); have GW416 := A_ ((mc125 : w.heap.size ≤ gb416)); have GE416 := A_ ((mc125 : w.heap.size ≤ gb416)); replace HB := A_ (below_step mc185 hb); have NB414_416 := A_ ((by rw [hg]; exact Nat.ne_of_lt (blk_lt mc278) : gb414 ≠ gb416)); have NB416_414 := A_ ((by rw [hg]; exact Nat.ne_of_gt (blk_lt mc278) : gb416 ≠ gb414)); replace BK414 := A_ (blk_below mc278 hb); have NB415_416 := A_ ((by rw [hg]; exact Nat.ne_of_lt (blk_lt mc279) : gb415 ≠ gb416)); have NB416_415 := A_ ((by rw [hg]; exact Nat.ne_of_gt (blk_lt mc279) : gb416 ≠ gb415)); replace BK415 := A_ (blk_below mc279 hb); clear hb hbox hg))
 (try simp only [Act.put, List.setIfInBounds_toArray, List.set_cons_zero, List.set_cons_succ])
 go_cut [16] (fun v16 wc => ∃ (kq : Nat) (x16_3 : Bool), v16 = .bool x16_3 ∧ Aside0 (impl_SetRegion.j0 kq l1 x16_3 a0_0 a0_1 l0_2 a2 = some (r1, r2, r3, r4)) ∧ Aside0 (kq ≤ k) ∧ Aside0 (wc.heap[gb414]? = some (.cells #[.int .i64 a0_0, .int .i64 a0_1, (.slice A0_2 l0_2.length c0_2)] 26 (0, 0))) ∧ Aside0 (wc.heap[gb415]? = some (.cells #[.int .i64 a2] 3 (0, 0))) ∧ Aside0 (wc.heap[gb416]? = some (.cells #[.int .i64 0, .int .i64 0, (.slice none 0 0)] 26 (0, 0))) ∧ Aside0 (Below w.heap.size w wc))
 case first =>
  have H := HC4.out
  clear HC4
  obtain ⟨t417, A80, H⟩ := oB_ H
  have A8 := A_ A80
  clear A80
  by_cases c9 : t417 = true
  rotate_left
  ·
   replace c9 := Bool.eq_false_iff.mpr c9
   subst c9
   rw [if_neg (show ¬ (false = true) by decide)] at H
   have H' := A_ H
   clear H
   have hnb17 := NB414_415.out
   have hnc17 := NB415_414.out
   have hnb18 := NB414_416.out
   have hnc18 := NB416_414.out
   have hcz19_0 : w7.cell? ⟨gb414, 0, none⟩ = some (.int .i64 a0_0) := bc_ BK414 0 rfl
   have hcz19_1 : w7.cell? ⟨gb414, 1, none⟩ = some (.int .i64 a0_1) := bc_ BK414 1 rfl
   have hcz19_2 : w7.cell? ⟨gb414, 2, none⟩ = some (.slice A0_2 l0_2.length c0_2) := bc_ BK414 2 rfl
   have hfz19_0 := blk_frozen BK414.out 0
   have hfz19_1 := blk_frozen BK414.out 1
   have hfz19_2 := blk_frozen BK414.out 2
   go_wp2_with (first | ((with_reducible refine gc_ 58 rfl ?_); refine goesL_ (some 10) rfl rfl Try.func58 kr_ rfl #[.agg #[.int .i64 a0_0, .int .i64 a0_1, .slice A0_2 l0_2.length c0_2], .slice A1 l1.length c1] rfl mc247 ?_; (with_reducible refine (impl_isRegionOf.calls k a0_0 a0_1 _ _ l0_2 _ _ l1 false _ ?side1 ?side2 ?side3 ?side4 A8.out).mono ?_); (case side1 => exact mc200); (case side2 => exact HC0_2.out); (case side3 => exact mc205); (case side4 => exact HC1.out); rintro e w20 ⟨rfl, hb⟩; refine ⟨_, rfl, ?_⟩; replace BK414 := A_ (blk_below mc278 hb); replace BK415 := A_ (blk_below mc279 hb); replace BK416 := A_ (blk_below mc280 hb); replace HB := A_ (below_step mc131 hb); (try clear hb)))
   go_meet
   case rel => exact ⟨_, (true), mc352, H', ⟨mc355⟩, ⟨mc278⟩, ⟨mc279⟩, ⟨mc280⟩, ⟨mc131⟩⟩
  subst c9
  rw [if_pos rfl] at H
  obtain ⟨t418, A100, H⟩ := oB_ H
  have A10 := A_ A100
  clear A100
  have H' := A_ H
  clear H
  have hnb11 := NB414_415.out
  have hnc11 := NB415_414.out
  have hnb12 := NB414_416.out
  have hnc12 := NB416_414.out
  have hcz13_0 : w7.cell? ⟨gb414, 0, none⟩ = some (.int .i64 a0_0) := bc_ BK414 0 rfl
  have hcz13_1 : w7.cell? ⟨gb414, 1, none⟩ = some (.int .i64 a0_1) := bc_ BK414 1 rfl
  have hcz13_2 : w7.cell? ⟨gb414, 2, none⟩ = some (.slice A0_2 l0_2.length c0_2) := bc_ BK414 2 rfl
  have hfz13_0 := blk_frozen BK414.out 0
  have hfz13_1 := blk_frozen BK414.out 1
  have hfz13_2 := blk_frozen BK414.out 2
  go_wp2_with (first | ((with_reducible refine gc_ 58 rfl ?_); refine goesL_ (some 10) rfl rfl Try.func58 kr_ rfl #[.agg #[.int .i64 a0_0, .int .i64 a0_1, .slice A0_2 l0_2.length c0_2], .slice A1 l1.length c1] rfl mc247 ?_; (with_reducible refine (impl_isRegionOf.calls k a0_0 a0_1 _ _ l0_2 _ _ l1 true _ ?side1 ?side2 ?side3 ?side4 A8.out).mono ?_); (case side1 => exact mc200); (case side2 => exact HC0_2.out); (case side3 => exact mc205); (case side4 => exact HC1.out); rintro e w14 ⟨rfl, hb⟩; refine ⟨_, rfl, ?_⟩; replace BK414 := A_ (blk_below mc278 hb); replace BK415 := A_ (blk_below mc279 hb); replace BK416 := A_ (blk_below mc280 hb); replace HB := A_ (below_step mc131 hb); (try clear hb); have hnb15 := NB415_416.out; have hnc15 := NB416_415.out; have hcz16_0 : w14.cell? ⟨gb415, 0, none⟩ = some (.int .i64 a2) := bc_ BK415 0 rfl; have hfz16_0 := blk_frozen BK415.out 0) | (go_at_call 59; (with_reducible refine (impl_isCell.calls a2 t418 _ A10.out).mono ?_); rintro e w' ⟨rfl, ⟨nd, rfl⟩⟩))
  go_meet
  case rel => exact ⟨_, (!t418), mc352, H', ⟨mc355⟩, ⟨mc278⟩, ⟨mc279⟩, ⟨mc280⟩, ⟨mc131⟩⟩
 case rest =>
  clear HC4
  try clear p2
  obtain ⟨kq, x16_3, rfl, HA, HJ3, BK414, BK415, BK416, HB⟩ := hcut
  cases kq with
  | zero => exact absurd HA.out (by simp [impl_SetRegion.j0])
  | succ kj3 =>
   have H := HA.out
   clear HA
   simp only [impl_SetRegion.j0] at H
   by_cases c21 : x16_3 = true
   ·
    subst c21
    rw [if_pos rfl] at H
    simp only [Option.some.injEq, Prod.mk.injEq] at H
    obtain ⟨rfl, rfl, rfl, rfl⟩ := H
    have hnb22 := NB416_414.out
    have hnc22 := NB414_416.out
    have hnb23 := NB416_415.out
    have hnc23 := NB415_416.out
    have hcz24_0 : wc.cell? ⟨gb416, 0, none⟩ = some (.int .i64 0) := bc_ BK416 0 rfl
    have hcz24_1 : wc.cell? ⟨gb416, 1, none⟩ = some (.int .i64 0) := bc_ BK416 1 rfl
    have hcz24_2 : wc.cell? ⟨gb416, 2, none⟩ = some (.slice none 0 0) := bc_ BK416 2 rfl
    have hfz24_0 := blk_frozen BK416.out 0
    have hfz24_1 := blk_frozen BK416.out 1
    have hfz24_2 := blk_frozen BK416.out 2
    go_wp2
    refine bodyPost_ret (results_ct rfl _ _ gb416 26 #[.int .i64 0, .int .i64 0, .slice none 0 0] (0, 0) _ rfl (by (with_reducible repeat (first | refine blk_drewN ?_ _ | refine blk_drew ?_ | refine blk_alloc ?_ _)); refine blk_put (cs := #[.int .i64 0, .int .i64 0, .slice none 0 0]) ?_ 2 _ rfl; (with_reducible repeat (first | refine blk_drewN ?_ _ | refine blk_drew ?_ | refine blk_alloc ?_ _)); refine blk_put (cs := #[.int .i64 0, .int .i64 0, .slice none 0 0]) ?_ 1 _ rfl; (with_reducible repeat (first | refine blk_drewN ?_ _ | refine blk_drew ?_ | refine blk_alloc ?_ _)); refine blk_put (cs := #[.int .i64 0, .int .i64 0, .slice none 0 0]) ?_ 0 _ rfl; (with_reducible repeat (first | refine blk_drewN ?_ _ | refine blk_drew ?_ | refine blk_alloc ?_ _)); exact BK416.out) Try.underlying26 rfl kr_) rfl ?_
    exact ⟨_, mc332, mc246, mc131⟩
   replace c21 := Bool.eq_false_iff.mpr c21
   subst c21
   rw [if_neg (show ¬ (false = true) by decide)] at H
   obtain ⟨t419, A250, H⟩ := oB_ H
   have A25 := A_ A250
   clear A250
   obtain ⟨⟨t420, t421, t422, t425⟩, A260, H⟩ := oB_ H
   have A26 := A_ A260
   clear A260
   simp only [Option.some.injEq, Prod.mk.injEq] at H
   obtain ⟨rfl, rfl, rfl, rfl⟩ := H
   have hnb27 := NB414_415.out
   have hnc27 := NB415_414.out
   have hnb28 := NB414_416.out
   have hnc28 := NB416_414.out
   have hcz29_0 : wc.cell? ⟨gb414, 0, none⟩ = some (.int .i64 a0_0) := bc_ BK414 0 rfl
   have hcz29_1 : wc.cell? ⟨gb414, 1, none⟩ = some (.int .i64 a0_1) := bc_ BK414 1 rfl
   have hcz29_2 : wc.cell? ⟨gb414, 2, none⟩ = some (.slice A0_2 l0_2.length c0_2) := bc_ BK414 2 rfl
   have hfz29_0 := blk_frozen BK414.out 0
   have hfz29_1 := blk_frozen BK414.out 1
   have hfz29_2 := blk_frozen BK414.out 2
   have hnb30 := NB415_416.out
   have hnc30 := NB416_415.out
   have hcz31_0 : wc.cell? ⟨gb415, 0, none⟩ = some (.int .i64 a2) := bc_ BK415 0 rfl
   have hfz31_0 := blk_frozen BK415.out 0
   go_wp2_with (first | ((with_reducible refine gc_ 60 rfl ?_); refine goesL_ (some 21) rfl rfl Try.func60 kr_ rfl #[.agg #[.int .i64 a0_0, .int .i64 a0_1, .slice A0_2 l0_2.length c0_2], .slice A1 l1.length c1, .func (.func 61) #[] #[.pointer (some ⟨gb415, 0, none⟩)]] rfl mc247 ?_; (with_reducible refine (impl_editedField.calls kj3 a0_0 a0_1 _ _ l0_2 _ _ l1 t419 61 #[.pointer (some ⟨gb415, 0, none⟩)] t420 t421 t422 t425 _ ?side1 ?side2 ?side3 ?side4 ?side91 ?side92 A26.out).mono ?_); (case side91 => exact enters_of Try.func61 kr_ rfl); (case side92 => exact (mk_impl_SetRegion_1.fn a2 t419 _ A25.out gb415 mc279)); (case side1 => exact mc200); (case side2 => exact HC0_2.out); (case side3 => exact mc205); (case side4 => exact HC1.out); rintro e w32 ⟨v423, rfl, ho0, hb⟩; refine ⟨_, rfl, ?_⟩; have HO424 := A_ (Kd.R_lower ho0 (below_size mc131)); replace BK414 := A_ (blk_below mc278 hb); replace BK415 := A_ (blk_below mc279 hb); replace BK416 := A_ (blk_below mc280 hb); replace HB := A_ (below_step mc131 hb); (try clear hb); (try clear ho0); have hcz33_0 : w32.cell? ⟨gb416, 0, none⟩ = some (.int .i64 0) := bc_ BK416 0 rfl; have hcz33_1 : w32.cell? ⟨gb416, 1, none⟩ = some (.int .i64 0) := bc_ BK416 1 rfl; have hcz33_2 : w32.cell? ⟨gb416, 2, none⟩ = some (.slice none 0 0) := bc_ BK416 2 rfl; have hfz33_0 := blk_frozen BK416.out 0; have hfz33_1 := blk_frozen BK416.out 1; have hfz33_2 := blk_frozen BK416.out 2; obtain ⟨Ao34, co34, eo34⟩ := Kd.R_slice HO424.out; subst eo34))
   refine bodyPost_ret (results_ct rfl _ _ gb416 26 #[.int .i64 t420, .int .i64 t421, .slice Ao34 t422.length co34] (0, 0) _ rfl (by (with_reducible repeat (first | refine blk_drewN ?_ _ | refine blk_drew ?_ | refine blk_alloc ?_ _)); refine blk_put (cs := #[.int .i64 t420, .int .i64 t421, .slice none 0 0]) ?_ 2 _ rfl; (with_reducible repeat (first | refine blk_drewN ?_ _ | refine blk_drew ?_ | refine blk_alloc ?_ _)); refine blk_put (cs := #[.int .i64 t420, .int .i64 0, .slice none 0 0]) ?_ 1 _ rfl; (with_reducible repeat (first | refine blk_drewN ?_ _ | refine blk_drew ?_ | refine blk_alloc ?_ _)); refine blk_put (cs := #[.int .i64 0, .int .i64 0, .slice none 0 0]) ?_ 0 _ rfl; (with_reducible repeat (first | refine blk_drewN ?_ _ | refine blk_drew ?_ | refine blk_alloc ?_ _)); exact BK416.out) Try.underlying26 rfl kr_) rfl ?_
   exact ⟨_, mc332, by (with_reducible repeat (first | apply Kd.R_alloc | apply Kd.R_drewN | apply Kd.R_drew)); exact Kd.R_mono (Kd.R_far (p := ⟨gb416, 2, none⟩) (Kd.R_far (p := ⟨gb416, 1, none⟩) (Kd.R_far (p := ⟨gb416, 0, none⟩) (Kd.R_types HO424.out BK416.out (by decide)) (fun _ hk => hk.2) (.int .i64 t420)) (fun _ hk => hk.2) (.int .i64 t421)) (fun _ hk => hk.2) (.slice Ao34 t422.length co34)) (fun _ hk => trivial), mc131⟩

end Go.Proofs.Ytdmkbfjipgaloaa.P
