-- Made by pp.py of this session out of the kit's print and of contracts proved by hand; Lean checks it.
import Derived.Test.YtdmkbfjipgaloaaMc
import Derived.Test.YtdmkbfjipgaloaaPx0
import Derived.Test.YtdmkbfjipgaloaaPx6
import Derived.Test.YtdmkbfjipgaloaaPx9
import Derived.Test.YtdmkbfjipgaloaaPx23
namespace Go.Proofs.Ytdmkbfjipgaloaa.P
open Go.RowKit Go.Proofs.YtdmkbfjipgaloaaW.PrintWords Go.Proofs.YtdmkbfjipgaloaaW.PrintLast Go.Proofs.YtdmkbfjipgaloaaW.PrintMore
attribute [local go_sem] max2_int min2_int max_two min_two max_three min_three max_four min_four   -- for this text's walks alone
set_option linter.unusedVariables false
set_option linter.unusedSimpArgs false

/-! ### spec_AddToRegion: function 32 -/
mutual
def spec_AddToRegion.j0 : Nat → List Int → Int → Bool → Int → Int → List Int → Option (Int × Int × List Int × Bool)
 | 0, _, _, _, _, _, _ => none
 | k + 1, x1, x2, x20, x452000, x452001, x452002 => if x20 = true then (some (0, 0, ([] : List Int), false)) else ((spec_l2Own.f x452000 x452001 x452002).bind fun bt455 => (spec_AddToRegion.l0 k x1 x2 true 0 x452000 x452001 x452002 bt455.1 bt455.2.1 bt455.2.2))
def spec_AddToRegion.l0 : Nat → List Int → Int → Bool → Int → Int → Int → List Int → Int → Int → List Int → Option (Int × Int × List Int × Bool)
 | 0, _, _, _, _, _, _, _, _, _, _ => none
 | k + 1, x1, x2, x9, x10, x452000, x452001, x452002, x461000, x461001, x461002 => if x10 < (x1.length : Int) then (if 0 ≤ x10 then (if 0 ≤ (rd x1 x10) then (if (rd x1 x10) < (x452002.length : Int) then (if (rd x452002 (rd x1 x10)) = (-9999) then (spec_AddToRegion.l0 k x1 x2 x9 (wrap64 (x10 + 1)) x452000 x452001 x452002 x461000 x461001 x461002) else (if (rd x1 x10) < (x461002.length : Int) then ((some (x461002.set ((rd x1 x10) : Int).toNat (wrap64 ((rd x452002 (rd x1 x10)) + x2)) : List Int)).bind fun y464 => (if x9 = true then ((spec_l1In.f (wrap64 ((rd x452002 (rd x1 x10)) + x2)) (-9000) 9000).bind fun t465 => (spec_AddToRegion.l0 k x1 x2 t465 (wrap64 (x10 + 1)) x452000 x452001 x452002 x461000 x461001 y464)) else (spec_AddToRegion.l0 k x1 x2 false (wrap64 (x10 + 1)) x452000 x452001 x452002 x461000 x461001 y464))) else (none))) else (none)) else (none)) else (none)) else ((spec_l4Checked.f k x461000 x461001 x461002 x9).bind fun bt466 => (some (bt466.1, bt466.2.1, bt466.2.2.1, bt466.2.2.2)))
end
def spec_AddToRegion.f (k : Nat) (a0_0 : Int) (a0_1 : Int) (l0_2 : List Int) (l1 : List Int) (a2 : Int) : Option (Int × Int × List Int × Bool) := (spec_l23Asked.f k a0_0 a0_1 l0_2 l1).bind fun t453 => (if t453 = true then ((spec_l1In.f a2 (-18000) 18000).bind fun t454 => (spec_AddToRegion.j0 k l1 a2 (!t454) a0_0 a0_1 l0_2)) else (spec_AddToRegion.j0 k l1 a2 true a0_0 a0_1 l0_2))
def spec_AddToRegion.T8 : Bool × List (List Nat × List Nat) := (true, [([], []), ([0], [0]), ([], []), ([], []), ([2, 3], [2, 3]), ([4], [4]), ([1, 5], [1, 5]), ([6], [6]), ([7, 0, 1, 2, 3, 4, 5, 6, 7], [7])])
def spec_AddToRegion.B8 : List Nat := [0, 1, 0, 0, 12, 28, 63, 127, 255]
theorem spec_AddToRegion.tab8 : rtab .any (opsOf Try.f32 8) = spec_AddToRegion.T8 := by kernel_rfl
theorem spec_AddToRegion.bits8 : waitsOk spec_AddToRegion.T8.2 spec_AddToRegion.B8 = true := by kernel_rfl
def spec_AddToRegion.T10 : Bool × List (List Nat × List Nat) := (true, [([], []), ([0], [0]), ([], []), ([], []), ([2, 3], [2, 3]), ([4], [4]), ([], []), ([], []), ([6, 7], [6, 7]), ([1, 5, 0, 1, 2, 3, 4, 5, 6, 7, 8], [1, 5]), ([9, 8, 0, 1, 2, 3, 4, 5, 6, 7, 8], [8, 9])])
def spec_AddToRegion.B10 : List Nat := [0, 1, 0, 0, 12, 28, 0, 0, 192, 511, 1023]
theorem spec_AddToRegion.tab10 : rtab .any (opsOf Try.f32 10) = spec_AddToRegion.T10 := by kernel_rfl
theorem spec_AddToRegion.bits10 : waitsOk spec_AddToRegion.T10.2 spec_AddToRegion.B10 = true := by kernel_rfl
set_option maxHeartbeats 8000000 in
set_option maxRecDepth 100000 in
theorem spec_AddToRegion.calls (k : Nat) (a0_0 : Int) (a0_1 : Int) (A0_2 : Option Addr) (c0_2 : Nat) (l0_2 : List Int) (A1 : Option Addr) (c1 : Nat) (l1 : List Int) (a2 : Int) (r1 : Int) (r2 : Int) (r3 : List Int) (r4 : Bool) (w : World) (hr0_2 : Kd.C (Kd.int .i64) w A0_2 l0_2.length l0_2) (hc0_2 : l0_2.length ≤ c0_2) (hr1 : Kd.C (Kd.int .i64) w A1 l1.length l1) (hc1 : l1.length ≤ c1) (h : spec_AddToRegion.f k a0_0 a0_1 l0_2 l1 a2 = some (r1, r2, r3, r4)) :
  Calls Try.prog 32 #[.agg #[.int .i64 a0_0, .int .i64 a0_1, .slice A0_2 l0_2.length c0_2], .slice A1 l1.length c1, .int .i64 a2] w fun e w' => ∃ v2_ : Value, e = .returned (.tuple #[.agg #[.int .i64 r1, .int .i64 r2, v2_], .bool r4]) ∧ Kd.R (Kd.int .i64) 3 w' w.heap.size (fun _ => True) v2_ r3 ∧ Below w.heap.size w w' := by
 have hu26 := Try.underlying26
 have HR0_2 := A_ hr0_2
 have HC0_2 := A_ hc0_2
 clear hr0_2 hc0_2
 have HR1 := A_ hr1
 have HC1 := A_ hc1
 clear hr1 hc1
 have HB := A_ (Below.refl w.heap.size w)
 have H : ((spec_l23Asked.f k a0_0 a0_1 l0_2 l1).bind fun t453 => (if t453 = true then ((spec_l1In.f a2 (-18000) 18000).bind fun t454 => (spec_AddToRegion.j0 k l1 a2 (!t454) a0_0 a0_1 l0_2)) else (spec_AddToRegion.j0 k l1 a2 true a0_0 a0_1 l0_2))) = some (r1, r2, r3, r4) := h
 clear h
 have HC4 := A_ H
 clear H
 go_enter Try.func32, Try.ntmps32
 go_upto_region 1 with (first | ((with_reducible refine gd_ 3 rfl ?_); refine box_event rfl (N := 3) rfl (cs := #[.int .i64 a0_0, .int .i64 a0_1, .slice A0_2 l0_2.length c0_2]) (t := 26) mc353 ?_; intro gb451 hg w5 hbox hb; have BK451 := A_ (hbox); have GW451 := A_ ((mc213 : w.heap.size ≤ gb451)); have GE451 := A_ ((mc213 : w.heap.size ≤ gb451)); replace HB := A_ (below_step mc249 hb); clear hb hbox hg) | ((with_reducible refine gd_ 6 rfl ?_); refine box_event rfl (N := 6) rfl (cs := #[.int .i64 0, .int .i64 0, .slice none 0 0]) (t := 26) mc353 ?_; intro gb452 hg w6 hbox hb; have BK452 := A_ (hbox); have GW452 := A_ ((mc175 : w.heap.size ≤ gb452)); have GE452 := A_ ((mc175 : w.heap.size ≤ gb452)); replace HB := A_ (below_step mc228 hb); have NB451_452 := A_ ((by rw [hg]; exact Nat.ne_of_lt (blk_lt mc287) : gb451 ≠ gb452)); have NB452_451 := A_ ((by rw [hg]; exact Nat.ne_of_gt (blk_lt mc287) : gb452 ≠ gb451)); replace BK451 := A_ (blk_below mc287 hb); clear hb hbox hg))
 (try simp only [Act.put, List.setIfInBounds_toArray, List.set_cons_zero, List.set_cons_succ])
 go_cut [20] (fun v20 wc => ∃ (kq : Nat) (x20_3 : Bool), v20 = .bool x20_3 ∧ Aside0 (spec_AddToRegion.j0 kq l1 a2 x20_3 a0_0 a0_1 l0_2 = some (r1, r2, r3, r4)) ∧ Aside0 (kq ≤ k) ∧ Aside0 (wc.heap[gb451]? = some (.cells #[.int .i64 a0_0, .int .i64 a0_1, (.slice A0_2 l0_2.length c0_2)] 26 (0, 0))) ∧ Aside0 (wc.heap[gb452]? = some (.cells #[.int .i64 0, .int .i64 0, (.slice none 0 0)] 26 (0, 0))) ∧ Aside0 (Below w.heap.size w wc))
 case first =>
  have H := HC4.out
  clear HC4
  obtain ⟨t453, A70, H⟩ := oB_ H
  have A7 := A_ A70
  clear A70
  by_cases c8 : t453 = true
  rotate_left
  ·
   replace c8 := Bool.eq_false_iff.mpr c8
   subst c8
   rw [if_neg (show ¬ (false = true) by decide)] at H
   have H' := A_ H
   clear H
   have hnb13 := NB451_452.out
   have hnc13 := NB452_451.out
   have hcz14_0 : w6.cell? ⟨gb451, 0, none⟩ = some (.int .i64 a0_0) := bc_ BK451 0 rfl
   have hcz14_1 : w6.cell? ⟨gb451, 1, none⟩ = some (.int .i64 a0_1) := bc_ BK451 1 rfl
   have hcz14_2 : w6.cell? ⟨gb451, 2, none⟩ = some (.slice A0_2 l0_2.length c0_2) := bc_ BK451 2 rfl
   have hfz14_0 := blk_frozen BK451.out 0
   have hfz14_1 := blk_frozen BK451.out 1
   have hfz14_2 := blk_frozen BK451.out 2
   go_wp2_with (first | ((with_reducible refine gc_ 55 rfl ?_); refine goesL_ (some 14) rfl rfl Try.func55 kr_ rfl #[.agg #[.int .i64 a0_0, .int .i64 a0_1, .slice A0_2 l0_2.length c0_2], .slice A1 l1.length c1] rfl mc247 ?_; (with_reducible refine (spec_l23Asked.calls k a0_0 a0_1 _ _ l0_2 _ _ l1 false _ ?side1 ?side2 ?side3 ?side4 A7.out).mono ?_); (case side1 => exact mc200); (case side2 => exact HC0_2.out); (case side3 => exact mc205); (case side4 => exact HC1.out); rintro e w15 ⟨rfl, hb⟩; refine ⟨_, rfl, ?_⟩; replace BK451 := A_ (blk_below mc287 hb); replace BK452 := A_ (blk_below mc288 hb); replace HB := A_ (below_step mc188 hb); (try clear hb)))
   go_meet
   case rel => exact ⟨_, (true), mc352, H', ⟨mc355⟩, ⟨mc287⟩, ⟨mc288⟩, ⟨mc188⟩⟩
  subst c8
  rw [if_pos rfl] at H
  obtain ⟨t454, A90, H⟩ := oB_ H
  have A9 := A_ A90
  clear A90
  have H' := A_ H
  clear H
  have hnb10 := NB451_452.out
  have hnc10 := NB452_451.out
  have hcz11_0 : w6.cell? ⟨gb451, 0, none⟩ = some (.int .i64 a0_0) := bc_ BK451 0 rfl
  have hcz11_1 : w6.cell? ⟨gb451, 1, none⟩ = some (.int .i64 a0_1) := bc_ BK451 1 rfl
  have hcz11_2 : w6.cell? ⟨gb451, 2, none⟩ = some (.slice A0_2 l0_2.length c0_2) := bc_ BK451 2 rfl
  have hfz11_0 := blk_frozen BK451.out 0
  have hfz11_1 := blk_frozen BK451.out 1
  have hfz11_2 := blk_frozen BK451.out 2
  go_wp2_with (first | ((with_reducible refine gc_ 55 rfl ?_); refine goesL_ (some 14) rfl rfl Try.func55 kr_ rfl #[.agg #[.int .i64 a0_0, .int .i64 a0_1, .slice A0_2 l0_2.length c0_2], .slice A1 l1.length c1] rfl mc247 ?_; (with_reducible refine (spec_l23Asked.calls k a0_0 a0_1 _ _ l0_2 _ _ l1 true _ ?side1 ?side2 ?side3 ?side4 A7.out).mono ?_); (case side1 => exact mc200); (case side2 => exact HC0_2.out); (case side3 => exact mc205); (case side4 => exact HC1.out); rintro e w12 ⟨rfl, hb⟩; refine ⟨_, rfl, ?_⟩; replace BK451 := A_ (blk_below mc287 hb); replace BK452 := A_ (blk_below mc288 hb); replace HB := A_ (below_step mc188 hb); (try clear hb)) | (go_at_call 66; (with_reducible refine (spec_l1In.calls a2 (-18000) 18000 t454 _ A9.out).mono ?_); rintro e w' ⟨rfl, ⟨nd, rfl⟩⟩))
  go_meet
  case rel => exact ⟨_, (!t454), mc352, H', ⟨mc355⟩, ⟨mc287⟩, ⟨mc288⟩, ⟨mc188⟩⟩
 case rest =>
  clear HC4
  try clear p2
  obtain ⟨kq, x20_3, rfl, HA, HJ3, BK451, BK452, HB⟩ := hcut
  cases kq with
  | zero => exact absurd HA.out (by simp [spec_AddToRegion.j0])
  | succ kj3 =>
   have H := HA.out
   clear HA
   simp only [spec_AddToRegion.j0] at H
   by_cases c16 : x20_3 = true
   ·
    subst c16
    rw [if_pos rfl] at H
    simp only [Option.some.injEq, Prod.mk.injEq] at H
    obtain ⟨rfl, rfl, rfl, rfl⟩ := H
    have hnb17 := NB452_451.out
    have hnc17 := NB451_452.out
    have hcz18_0 : wc.cell? ⟨gb452, 0, none⟩ = some (.int .i64 0) := bc_ BK452 0 rfl
    have hcz18_1 : wc.cell? ⟨gb452, 1, none⟩ = some (.int .i64 0) := bc_ BK452 1 rfl
    have hcz18_2 : wc.cell? ⟨gb452, 2, none⟩ = some (.slice none 0 0) := bc_ BK452 2 rfl
    have hfz18_0 := blk_frozen BK452.out 0
    have hfz18_1 := blk_frozen BK452.out 1
    have hfz18_2 := blk_frozen BK452.out 2
    go_wp2
    refine bodyPost_ret (results_ct rfl _ _ gb452 26 #[.int .i64 0, .int .i64 0, .slice none 0 0] (0, 0) _ rfl (by (with_reducible repeat (first | refine blk_drewN ?_ _ | refine blk_drew ?_ | refine blk_alloc ?_ _)); refine blk_put (cs := #[.int .i64 0, .int .i64 0, .slice none 0 0]) ?_ 2 _ rfl; (with_reducible repeat (first | refine blk_drewN ?_ _ | refine blk_drew ?_ | refine blk_alloc ?_ _)); refine blk_put (cs := #[.int .i64 0, .int .i64 0, .slice none 0 0]) ?_ 1 _ rfl; (with_reducible repeat (first | refine blk_drewN ?_ _ | refine blk_drew ?_ | refine blk_alloc ?_ _)); refine blk_put (cs := #[.int .i64 0, .int .i64 0, .slice none 0 0]) ?_ 0 _ rfl; (with_reducible repeat (first | refine blk_drewN ?_ _ | refine blk_drew ?_ | refine blk_alloc ?_ _)); exact BK452.out) Try.underlying26 rfl kr_) rfl ?_
    exact ⟨_, mc332, mc246, mc188⟩
   replace c16 := Bool.eq_false_iff.mpr c16
   subst c16
   rw [if_neg (show ¬ (false = true) by decide)] at H
   obtain ⟨⟨t455, t456, t457⟩, A190, H⟩ := oB_ H
   have A19 := A_ A190
   clear A190
   have H' := A_ H
   clear H
   have hnb20 := NB451_452.out
   have hnc20 := NB452_451.out
   have hcz21_0 : wc.cell? ⟨gb451, 0, none⟩ = some (.int .i64 a0_0) := bc_ BK451 0 rfl
   have hcz21_1 : wc.cell? ⟨gb451, 1, none⟩ = some (.int .i64 a0_1) := bc_ BK451 1 rfl
   have hcz21_2 : wc.cell? ⟨gb451, 2, none⟩ = some (.slice A0_2 l0_2.length c0_2) := bc_ BK451 2 rfl
   have hfz21_0 := blk_frozen BK451.out 0
   have hfz21_1 := blk_frozen BK451.out 1
   have hfz21_2 := blk_frozen BK451.out 2
   go_wp2_with (first | ((with_reducible refine gc_ 57 rfl ?_); refine goesL_ (some 23) rfl rfl Try.func57 kr_ rfl #[.agg #[.int .i64 a0_0, .int .i64 a0_1, .slice A0_2 l0_2.length c0_2]] rfl mc247 ?_; (with_reducible refine (spec_l2Own.calls a0_0 a0_1 _ _ l0_2 t455 t456 t457 _ ?side1 ?side2 A19.out).mono ?_); (case side1 => exact mc200); (case side2 => exact HC0_2.out); rintro e w22 ⟨v458, rfl, ho0, hb⟩; refine ⟨_, rfl, ?_⟩; have HO459 := A_ (Kd.R_lower ho0 (below_size mc188)); replace BK451 := A_ (blk_below mc287 hb); replace BK452 := A_ (blk_below mc288 hb); replace HB := A_ (below_step mc188 hb); (try clear hb); (try clear ho0)) | ((with_reducible refine gd_ 8 rfl ?_); refine box_event rfl (N := 8) rfl (cs := #[.int .i64 0, .int .i64 0, .slice none 0 0]) (t := 26) mc353 ?_; intro gb460 hg w23 hbox hb; replace HO459 := A_ (Kd.R_below (by (with_reducible repeat (first | apply Kd.R_alloc | apply Kd.R_drewN | apply Kd.R_drew)); exact HO459.out) hb); have BK460 := A_ (hbox); have GW460 := A_ ((mc127 : w.heap.size ≤ gb460)); have GE460 := A_ ((mc127 : w.heap.size ≤ gb460)); replace HB := A_ (below_step mc188 hb); have NB451_460 := A_ ((by rw [hg]; exact Nat.ne_of_lt (blk_lt mc287) : gb451 ≠ gb460)); have NB460_451 := A_ ((by rw [hg]; exact Nat.ne_of_gt (blk_lt mc287) : gb460 ≠ gb451)); replace BK451 := A_ (blk_below mc287 hb); have NB452_460 := A_ ((by rw [hg]; exact Nat.ne_of_lt (blk_lt mc288) : gb452 ≠ gb460)); have NB460_452 := A_ ((by rw [hg]; exact Nat.ne_of_gt (blk_lt mc288) : gb460 ≠ gb452)); replace BK452 := A_ (blk_below mc288 hb); clear hb hbox hg; have hnb24 := NB460_451.out; have hnc24 := NB451_460.out; have hnb25 := NB460_452.out; have hnc25 := NB452_460.out; have hcz26_0 : w23.cell? ⟨gb460, 0, none⟩ = some (.int .i64 0) := bc_ BK460 0 rfl; have hcz26_1 : w23.cell? ⟨gb460, 1, none⟩ = some (.int .i64 0) := bc_ BK460 1 rfl; have hcz26_2 : w23.cell? ⟨gb460, 2, none⟩ = some (.slice none 0 0) := bc_ BK460 2 rfl; have hfz26_0 := blk_frozen BK460.out 0; have hfz26_1 := blk_frozen BK460.out 1; have hfz26_2 := blk_frozen BK460.out 2; obtain ⟨Ao27, co27, eo27⟩ := Kd.R_slice HO459.out; subst eo27))
   go_loopg [9, 10] kj3 (fun kq v9 v10 w' => ∃ (x9_2 : Bool) (x10_2 : Int) (x461002_2 : List Int) (u461002 : Value), v9 = .bool x9_2 ∧ v10 = .int .i64 x10_2 ∧ Aside0 (spec_AddToRegion.l0 kq l1 a2 x9_2 x10_2 a0_0 a0_1 l0_2 t455 t456 x461002_2 = some (r1, r2, r3, r4)) ∧ Aside0 (kq ≤ kj3) ∧ Aside0 (Kd.R (Kd.int .i64) 3 w' w.heap.size (fun _ => True) u461002 x461002_2) ∧ Aside0 (w'.heap[gb451]? = some (.cells #[.int .i64 a0_0, .int .i64 a0_1, (.slice A0_2 l0_2.length c0_2)] 26 (0, 0))) ∧ Aside0 (w'.heap[gb452]? = some (.cells #[.int .i64 0, .int .i64 0, (.slice none 0 0)] 26 (0, 0))) ∧ Aside0 (w'.heap[gb460]? = some (.cells #[.int .i64 t455, .int .i64 t456, u461002] 26 (0, 0))) ∧ Aside0 (Below w.heap.size w w'))
   case atStart => exact ⟨(true), (0), (t457), (.slice Ao27 t457.length co27), mc352, mc352, H', ⟨Nat.le_refl _⟩, ⟨by (with_reducible repeat (first | apply Kd.R_alloc | apply Kd.R_drewN | apply Kd.R_drew)); exact Kd.R_mono (Kd.R_far (p := ⟨gb460, 2, none⟩) (Kd.R_far (p := ⟨gb460, 1, none⟩) (Kd.R_far (p := ⟨gb460, 0, none⟩) (Kd.R_types HO459.out BK460.out (by decide)) (fun _ hk => hk.2) (.int .i64 t455)) (fun _ hk => hk.2) (.int .i64 t456)) (fun _ hk => hk.2) (.slice Ao27 t457.length co27)) (fun _ hk => trivial)⟩, ⟨by (with_reducible repeat (first | refine blk_drewN ?_ _ | refine blk_drew ?_ | refine blk_alloc ?_ _)); refine blk_far ?_ NB451_460.out _; (with_reducible repeat (first | refine blk_drewN ?_ _ | refine blk_drew ?_ | refine blk_alloc ?_ _)); refine blk_far ?_ NB451_460.out _; (with_reducible repeat (first | refine blk_drewN ?_ _ | refine blk_drew ?_ | refine blk_alloc ?_ _)); refine blk_far ?_ NB451_460.out _; (with_reducible repeat (first | refine blk_drewN ?_ _ | refine blk_drew ?_ | refine blk_alloc ?_ _)); exact BK451.out⟩, ⟨by (with_reducible repeat (first | refine blk_drewN ?_ _ | refine blk_drew ?_ | refine blk_alloc ?_ _)); refine blk_far ?_ NB452_460.out _; (with_reducible repeat (first | refine blk_drewN ?_ _ | refine blk_drew ?_ | refine blk_alloc ?_ _)); refine blk_far ?_ NB452_460.out _; (with_reducible repeat (first | refine blk_drewN ?_ _ | refine blk_drew ?_ | refine blk_alloc ?_ _)); refine blk_far ?_ NB452_460.out _; (with_reducible repeat (first | refine blk_drewN ?_ _ | refine blk_drew ?_ | refine blk_alloc ?_ _)); exact BK452.out⟩, ⟨by (with_reducible repeat (first | refine blk_drewN ?_ _ | refine blk_drew ?_ | refine blk_alloc ?_ _)); refine blk_put (cs := #[.int .i64 t455, .int .i64 t456, .slice none 0 0]) ?_ 2 _ rfl; (with_reducible repeat (first | refine blk_drewN ?_ _ | refine blk_drew ?_ | refine blk_alloc ?_ _)); refine blk_put (cs := #[.int .i64 t455, .int .i64 0, .slice none 0 0]) ?_ 1 _ rfl; (with_reducible repeat (first | refine blk_drewN ?_ _ | refine blk_drew ?_ | refine blk_alloc ?_ _)); refine blk_put (cs := #[.int .i64 0, .int .i64 0, .slice none 0 0]) ?_ 0 _ rfl; (with_reducible repeat (first | refine blk_drewN ?_ _ | refine blk_drew ?_ | refine blk_alloc ?_ _)); exact BK460.out⟩, ⟨mc137⟩⟩
   case round =>
    clear H'
    try clear p2
    try clear p2
    obtain ⟨x9_2, x10_2, x461002_2, u461002, rfl, rfl, HA, HK2, HO_461002, BK451, BK452, BK460, HB⟩ := hrel
    cases gk with
    | zero => exact absurd HA.out (by simp [spec_AddToRegion.l0])
    | succ k2 =>
     have H := HA.out
     clear HA
     simp only [spec_AddToRegion.l0] at H
     by_cases c28 : x10_2 < (l1.length : Int)
     rotate_left
     ·
      rw [if_neg c28] at H
      have c28b0 : decide (x10_2 < (l1.length : Int)) = false := decide_eq_false c28
      clear c28
      obtain ⟨⟨t466, t467, t468, t471⟩, A440, H⟩ := oB_ H
      have A44 := A_ A440
      clear A440
      simp only [Option.some.injEq, Prod.mk.injEq] at H
      obtain ⟨rfl, rfl, rfl, rfl⟩ := H
      have hnb45 := NB460_451.out
      have hnc45 := NB451_460.out
      have hnb46 := NB460_452.out
      have hnc46 := NB452_460.out
      have hcz47_0 : wr.cell? ⟨gb460, 0, none⟩ = some (.int .i64 t455) := bc_ BK460 0 rfl
      have hcz47_1 : wr.cell? ⟨gb460, 1, none⟩ = some (.int .i64 t456) := bc_ BK460 1 rfl
      have hcz47_2 : wr.cell? ⟨gb460, 2, none⟩ = some (u461002) := bc_ BK460 2 rfl
      have hfz47_0 := blk_frozen BK460.out 0
      have hfz47_1 := blk_frozen BK460.out 1
      have hfz47_2 := blk_frozen BK460.out 2
      obtain ⟨Ao48, co48, eo48⟩ := Kd.R_slice HO_461002.out
      subst eo48
      go_wp2_with (first | ((with_reducible refine gc_ 67 rfl ?_); refine goesL_ (some 59) rfl rfl Try.func67 kr_ rfl #[.agg #[.int .i64 t455, .int .i64 t456, .slice Ao48 x461002_2.length co48], .bool x9_2] rfl mc247 ?_; (with_reducible refine (spec_l4Checked.calls k2 t455 t456 (fun k_ => some k_ = (.slice Ao48 x461002_2.length co48 : Value).ownBlock) (.slice Ao48 x461002_2.length co48) x461002_2 x9_2 t466 t467 t468 t471 w _ ?side1 ?side2 A44.out).mono ?_); (case side1 => repeat (first | (with_reducible first | exact HB.out | apply below_alloc | apply pw_below_drewN | apply below_drew1 | refine below_set ?_ GE451.out | refine below_set ?_ GE452.out | refine below_set ?_ GE460.out) | exact HB.out)); (case side2 => exact Kd.R_tight rfl HO_461002.out); rintro e w49 ⟨v469, rfl, ho0, hb, hkp⟩; refine ⟨_, rfl, ?_⟩; replace BK451 := A_ (blk_kept mc287 hkp (fun hs_ => (fun e_ => (Kd.R_ne HO_461002.out BK451.out (by decide)) e_) hs_)); replace BK452 := A_ (blk_kept mc288 hkp (fun hs_ => (fun e_ => (Kd.R_ne HO_461002.out BK452.out (by decide)) e_) hs_)); replace BK460 := A_ (blk_kept (by (with_reducible repeat (first | refine blk_drewN ?_ _ | refine blk_drew ?_ | refine blk_alloc ?_ _)); exact BK460.out) hkp (fun hs_ => (fun e_ => (Kd.R_ne HO_461002.out BK460.out (by decide)) e_) hs_)); have HO470 := A_ (Kd.R_mono (ok' := fun k_ => True) ho0 (fun k_ hk_ => trivial)); replace HB := A_ (hb); clear HO_461002; (try clear hb); (try clear hkp); (try clear ho0); have hnb50 := NB452_451.out; have hnc50 := NB451_452.out; have hcz51_0 : w49.cell? ⟨gb452, 0, none⟩ = some (.int .i64 0) := bc_ BK452 0 rfl; have hcz51_1 : w49.cell? ⟨gb452, 1, none⟩ = some (.int .i64 0) := bc_ BK452 1 rfl; have hcz51_2 : w49.cell? ⟨gb452, 2, none⟩ = some (.slice none 0 0) := bc_ BK452 2 rfl; have hfz51_0 := blk_frozen BK452.out 0; have hfz51_1 := blk_frozen BK452.out 1; have hfz51_2 := blk_frozen BK452.out 2; obtain ⟨Ao52, co52, eo52⟩ := Kd.R_slice HO470.out; subst eo52))
      refine bodyPost_ret (results_ct rfl _ _ gb452 26 #[.int .i64 t466, .int .i64 t467, .slice Ao52 t468.length co52] (0, 0) _ rfl (by (with_reducible repeat (first | refine blk_drewN ?_ _ | refine blk_drew ?_ | refine blk_alloc ?_ _)); refine blk_put (cs := #[.int .i64 t466, .int .i64 t467, .slice none 0 0]) ?_ 2 _ rfl; (with_reducible repeat (first | refine blk_drewN ?_ _ | refine blk_drew ?_ | refine blk_alloc ?_ _)); refine blk_put (cs := #[.int .i64 t466, .int .i64 0, .slice none 0 0]) ?_ 1 _ rfl; (with_reducible repeat (first | refine blk_drewN ?_ _ | refine blk_drew ?_ | refine blk_alloc ?_ _)); refine blk_put (cs := #[.int .i64 0, .int .i64 0, .slice none 0 0]) ?_ 0 _ rfl; (with_reducible repeat (first | refine blk_drewN ?_ _ | refine blk_drew ?_ | refine blk_alloc ?_ _)); exact BK452.out) Try.underlying26 rfl kr_) rfl ?_
      exact ⟨_, mc332, by (with_reducible repeat (first | apply Kd.R_alloc | apply Kd.R_drewN | apply Kd.R_drew)); exact Kd.R_mono (Kd.R_far (p := ⟨gb452, 2, none⟩) (Kd.R_far (p := ⟨gb452, 1, none⟩) (Kd.R_far (p := ⟨gb452, 0, none⟩) (Kd.R_types HO470.out BK452.out (by decide)) (fun _ hk => hk.2) (.int .i64 t466)) (fun _ hk => hk.2) (.int .i64 t467)) (fun _ hk => hk.2) (.slice Ao52 t468.length co52)) (fun _ hk => trivial), mc137⟩
     rw [if_pos c28] at H
     have c28b0 : decide (x10_2 < (l1.length : Int)) = true := decide_eq_true c28
     clear c28
     by_cases c29 : 0 ≤ x10_2
     rotate_left
     ·
      rw [if_neg c29] at H
      exact absurd H (by simp)
     rw [if_pos c29] at H
     have c29b0 : decide (0 ≤ x10_2) = true := decide_eq_true c29
     clear c29
     by_cases c30 : 0 ≤ (rd l1 x10_2)
     rotate_left
     ·
      rw [if_neg c30] at H
      exact absurd H (by simp)
     rw [if_pos c30] at H
     have c30b0 : decide (0 ≤ (rd l1 x10_2)) = true := decide_eq_true c30
     clear c30
     by_cases c31 : (rd l1 x10_2) < (l0_2.length : Int)
     rotate_left
     ·
      rw [if_neg c31] at H
      exact absurd H (by simp)
     rw [if_pos c31] at H
     have c31b0 : decide ((rd l1 x10_2) < (l0_2.length : Int)) = true := decide_eq_true c31
     clear c31
     by_cases c32 : (rd l0_2 (rd l1 x10_2)) = (-9999)
     ·
      rw [if_pos c32] at H
      have c32b0 : ((rd l0_2 (rd l1 x10_2)) == (-9999)) = true := beq_iff_eq.mpr c32
      have c32b1 : ((rd l0_2 (rd l1 x10_2)) != (-9999)) = false := bne_eq_false_iff_eq.mpr c32
      clear c32
      have H' := A_ H
      clear H
      try go_wp2
      replace HO_461002 := A_ (Kd.R_drew HO_461002.out)
      replace BK451 := A_ (blk_drew BK451.out)
      replace BK452 := A_ (blk_drew BK452.out)
      replace BK460 := A_ (blk_drew BK460.out)
      replace HB := A_ (below_drew1 HB.out)
      have p461 : 0 ≤ (x10_2 : Int) := of_decide_eq_true mc341
      have q461 : x10_2 < (l1.length : Int) := of_decide_eq_true mc341
      obtain ⟨ad461, e461, hx461_0⟩ := Kd.at_int HR1.out x10_2 p461 q461
      have hw461_0 := hx461_0
      cases e461
      replace hx461_0 := (HB.out.cell (World.block_lt_of_cell? w _ hx461_0)).trans hx461_0
      replace p461 := eq_true p461
      replace q461 := eq_true q461
      have p462 : 0 ≤ ((rd l1 x10_2) : Int) := of_decide_eq_true mc341
      have q462 : (rd l1 x10_2) < (l0_2.length : Int) := of_decide_eq_true mc341
      obtain ⟨ad462, e462, hx462_0⟩ := Kd.at_int HR0_2.out (rd l1 x10_2) p462 q462
      have hw462_0 := hx462_0
      cases e462
      replace hx462_0 := (HB.out.cell (World.block_lt_of_cell? w _ hx462_0)).trans hx462_0
      replace p462 := eq_true p462
      replace q462 := eq_true q462
      refine start_ (n := 9) (S := fun w' => w'.cell? ⟨gb451, 0, none⟩ = some (.int .i64 a0_0) ∧ w'.cell? ⟨gb451, 1, none⟩ = some (.int .i64 a0_1) ∧ w'.cell? ⟨gb451, 2, none⟩ = some (.slice (some ad462) l0_2.length c0_2) ∧ w'.cell? (ad461.add (x10_2).toNat) = some (.int .i64 (rd l1 x10_2)) ∧ w'.cell? (ad462.add ((rd l1 x10_2)).toNat) = some (.int .i64 (rd l0_2 (rd l1 x10_2)))) (ds := []) #[false, false, false, false, false, false, false, false, false] kr_ rfl rfl ⟨bc_ BK451 0 rfl, bc_ BK451 1 rfl, bc_ BK451 2 rfl, ((HB.out.cell (World.block_lt_of_cell? w _ hw461_0)).trans hw461_0), ((HB.out.cell (World.block_lt_of_cell? w _ hw462_0)).trans hw462_0)⟩ (fun hHeld => ?_); refine with_tabW spec_AddToRegion.tab8 spec_AddToRegion.bits8 (fun HT_ HW_ => ?_)
      generalize wr.drew = w33 at HO_461002 BK451 BK452 BK460 HB hx461_0 hx462_0 hHeld ⊢
      refine pure_ (i := 0) (N := some 30) #[true, false, false, false, false, false, false, false, false] rfl rfl (any_of HT_.out kr_) (fun _ _ _ h => h) (Or.inl ⟨by rfl, mc354⟩) mc312 ?_
      refine pure_ (i := 2) (N := some 32) #[true, false, true, false, false, false, false, false, false] rfl rfl (any_of HT_.out kr_) (fun _ _ _ h => h) (Or.inl ⟨by rfl, mc354⟩) mc312 ?_
      refine pure_ (i := 3) (N := some 33) #[true, false, true, true, false, false, false, false, false] rfl rfl (any_of HT_.out kr_) (fun _ _ _ h => h) (Or.inl ⟨by rfl, mc354⟩) mc312 ?_
      refine pure_ (i := 4) (N := some 34) #[true, false, true, true, true, false, false, false, false] rfl rfl (any_of HT_.out kr_) (fun _ _ _ h => h) (Or.inl ⟨by rfl, mc354⟩) mc312 ?_
      refine take_ (i := 1) (N := some 31) #[true, true, true, true, true, false, false, false, false] rfl rfl (take_ofW HT_.out HW_.out kr_) (fun _ _ _ h => h) (Or.inl ⟨by rfl, mc337⟩) hHeld mc312 ?_
      refine take_ (i := 5) (N := some 35) #[true, true, true, true, true, true, false, false, false] rfl rfl (take_ofW HT_.out HW_.out kr_) (fun _ _ _ h => h) (Or.inl ⟨by rfl, mc337⟩) hHeld mc312 ?_
      refine pure_ (i := 6) (N := some 36) #[true, true, true, true, true, true, true, false, false] rfl rfl (any_of HT_.out kr_) (fun _ _ _ h => h) (Or.inl ⟨by rfl, mc354⟩) mc312 ?_
      refine take_ (i := 7) (N := some 37) #[true, true, true, true, true, true, true, true, false] rfl rfl (take_ofW HT_.out HW_.out kr_) (fun _ _ _ h => h) (Or.inl ⟨by rfl, mc337⟩) hHeld mc312 ?_
      refine pure_ (i := 8) (N := some 11) #[true, true, true, true, true, true, true, true, true] rfl rfl (any_of HT_.out kr_) (fun _ _ _ h => h) (Or.inl ⟨by rfl, mc354⟩) mc312 ?_
      refine done_ (done_of HT_.out kr_) ?_
      try go_wp2
      go_roundg k2
      case measure => have := HJ3.out; have := HK2.out; omega
      case rel => exact ⟨(x9_2), (wrap64 (x10_2 + 1)), (x461002_2), (u461002), mc352, mc352, H', ⟨by have := HJ3.out; have := HK2.out; omega⟩, ⟨by (with_reducible repeat (first | apply Kd.R_alloc | apply Kd.R_drewN | apply Kd.R_drew)); exact HO_461002.out⟩, ⟨mc287⟩, ⟨mc288⟩, ⟨by (with_reducible repeat (first | refine blk_drewN ?_ _ | refine blk_drew ?_ | refine blk_alloc ?_ _)); exact BK460.out⟩, ⟨mc137⟩⟩
     rw [if_neg c32] at H
     have c32b0 : ((rd l0_2 (rd l1 x10_2)) == (-9999)) = false := beq_eq_false_iff_ne.mpr c32
     have c32b1 : ((rd l0_2 (rd l1 x10_2)) != (-9999)) = true := bne_iff_ne.mpr c32
     by_cases c34 : (rd l1 x10_2) < (x461002_2.length : Int)
     rotate_left
     ·
      rw [if_neg c34] at H
      exact absurd H (by simp)
     rw [if_pos c34] at H
     have c34b0 : decide ((rd l1 x10_2) < (x461002_2.length : Int)) = true := decide_eq_true c34
     clear c34
     obtain ⟨y464, hy464⟩ : ∃ y_ : List Int, y_ = (x461002_2.set ((rd l1 x10_2) : Int).toNat (wrap64 ((rd l0_2 (rd l1 x10_2)) + a2))) := ⟨_, rfl⟩
     replace H : (if x9_2 = true then ((spec_l1In.f (wrap64 ((rd l0_2 (rd l1 x10_2)) + a2)) (-9000) 9000).bind fun t465 => (spec_AddToRegion.l0 k2 l1 a2 t465 (wrap64 (x10_2 + 1)) a0_0 a0_1 l0_2 t455 t456 y464)) else (spec_AddToRegion.l0 k2 l1 a2 false (wrap64 (x10_2 + 1)) a0_0 a0_1 l0_2 t455 t456 y464)) = some (r1, r2, r3, r4) := by first | (rw [hy464]; with_reducible exact H) | (have H2_ := (Option.bind_some _ _).symm.trans H; rw [hy464]; with_reducible exact H2_) | (have H2_ := (Option.bind_some _ _).symm.trans H; with_reducible exact H2_) | with_reducible exact H | (rw [hy464]; exact H) | exact H
     have Ny464 := A_ hy464
     clear hy464
     by_cases c36 : x9_2 = true
     rotate_left
     ·
      replace c36 := Bool.eq_false_iff.mpr c36
      subst c36
      rw [if_neg (show ¬ (false = true) by decide)] at H
      have H' := A_ H
      clear H
      try go_wp2
      replace HO_461002 := A_ (Kd.R_drew HO_461002.out)
      replace BK451 := A_ (blk_drew BK451.out)
      replace BK452 := A_ (blk_drew BK452.out)
      replace BK460 := A_ (blk_drew BK460.out)
      replace HB := A_ (below_drew1 HB.out)
      have p461 : 0 ≤ (x10_2 : Int) := of_decide_eq_true mc341
      have q461 : x10_2 < (l1.length : Int) := of_decide_eq_true mc341
      obtain ⟨ad461, e461, hx461_0⟩ := Kd.at_int HR1.out x10_2 p461 q461
      have hw461_0 := hx461_0
      cases e461
      replace hx461_0 := (HB.out.cell (World.block_lt_of_cell? w _ hx461_0)).trans hx461_0
      replace p461 := eq_true p461
      replace q461 := eq_true q461
      have p462 : 0 ≤ ((rd l1 x10_2) : Int) := of_decide_eq_true mc341
      have q462 : (rd l1 x10_2) < (l0_2.length : Int) := of_decide_eq_true mc341
      obtain ⟨ad462, e462, hx462_0⟩ := Kd.at_int HR0_2.out (rd l1 x10_2) p462 q462
      have hw462_0 := hx462_0
      cases e462
      replace hx462_0 := (HB.out.cell (World.block_lt_of_cell? w _ hx462_0)).trans hx462_0
      replace p462 := eq_true p462
      replace q462 := eq_true q462
      refine start_ (n := 9) (S := fun w' => w'.cell? ⟨gb451, 0, none⟩ = some (.int .i64 a0_0) ∧ w'.cell? ⟨gb451, 1, none⟩ = some (.int .i64 a0_1) ∧ w'.cell? ⟨gb451, 2, none⟩ = some (.slice (some ad462) l0_2.length c0_2) ∧ w'.cell? (ad461.add (x10_2).toNat) = some (.int .i64 (rd l1 x10_2)) ∧ w'.cell? (ad462.add ((rd l1 x10_2)).toNat) = some (.int .i64 (rd l0_2 (rd l1 x10_2)))) (ds := []) #[false, false, false, false, false, false, false, false, false] kr_ rfl rfl ⟨bc_ BK451 0 rfl, bc_ BK451 1 rfl, bc_ BK451 2 rfl, ((HB.out.cell (World.block_lt_of_cell? w _ hw461_0)).trans hw461_0), ((HB.out.cell (World.block_lt_of_cell? w _ hw462_0)).trans hw462_0)⟩ (fun hHeld => ?_); refine with_tabW spec_AddToRegion.tab8 spec_AddToRegion.bits8 (fun HT_ HW_ => ?_)
      generalize wr.drew = w41 at HO_461002 BK451 BK452 BK460 HB hx461_0 hx462_0 hHeld ⊢
      refine pure_ (i := 0) (N := some 30) #[true, false, false, false, false, false, false, false, false] rfl rfl (any_of HT_.out kr_) (fun _ _ _ h => h) (Or.inl ⟨by rfl, mc354⟩) mc312 ?_
      refine pure_ (i := 2) (N := some 32) #[true, false, true, false, false, false, false, false, false] rfl rfl (any_of HT_.out kr_) (fun _ _ _ h => h) (Or.inl ⟨by rfl, mc354⟩) mc312 ?_
      refine pure_ (i := 3) (N := some 33) #[true, false, true, true, false, false, false, false, false] rfl rfl (any_of HT_.out kr_) (fun _ _ _ h => h) (Or.inl ⟨by rfl, mc354⟩) mc312 ?_
      refine pure_ (i := 4) (N := some 34) #[true, false, true, true, true, false, false, false, false] rfl rfl (any_of HT_.out kr_) (fun _ _ _ h => h) (Or.inl ⟨by rfl, mc354⟩) mc312 ?_
      refine take_ (i := 1) (N := some 31) #[true, true, true, true, true, false, false, false, false] rfl rfl (take_ofW HT_.out HW_.out kr_) (fun _ _ _ h => h) (Or.inl ⟨by rfl, mc337⟩) hHeld mc312 ?_
      refine take_ (i := 5) (N := some 35) #[true, true, true, true, true, true, false, false, false] rfl rfl (take_ofW HT_.out HW_.out kr_) (fun _ _ _ h => h) (Or.inl ⟨by rfl, mc337⟩) hHeld mc312 ?_
      refine pure_ (i := 6) (N := some 36) #[true, true, true, true, true, true, true, false, false] rfl rfl (any_of HT_.out kr_) (fun _ _ _ h => h) (Or.inl ⟨by rfl, mc354⟩) mc312 ?_
      refine take_ (i := 7) (N := some 37) #[true, true, true, true, true, true, true, true, false] rfl rfl (take_ofW HT_.out HW_.out kr_) (fun _ _ _ h => h) (Or.inl ⟨by rfl, mc337⟩) hHeld mc312 ?_
      refine pure_ (i := 8) (N := some 11) #[true, true, true, true, true, true, true, true, true] rfl rfl (any_of HT_.out kr_) (fun _ _ _ h => h) (Or.inl ⟨by rfl, mc354⟩) mc312 ?_
      refine done_ (done_of HT_.out kr_) ?_
      try go_wp2
      replace HO_461002 := A_ (Kd.R_drew HO_461002.out)
      replace BK451 := A_ (blk_drew BK451.out)
      replace BK452 := A_ (blk_drew BK452.out)
      replace BK460 := A_ (blk_drew BK460.out)
      replace HB := A_ (below_drew1 HB.out)
      have p463 : 0 ≤ (x10_2 : Int) := of_decide_eq_true mc341
      have q463 : x10_2 < (l1.length : Int) := of_decide_eq_true mc341
      obtain ⟨ad463, e463, hx463_0⟩ := Kd.at_int HR1.out x10_2 p463 q463
      have hw463_0 := hx463_0
      obtain rfl : ad461 = ad463 := (by injection e463)
      replace hx463_0 := (HB.out.cell (World.block_lt_of_cell? w _ hx463_0)).trans hx463_0
      replace p463 := eq_true p463
      replace q463 := eq_true q463
      have p35 : 0 ≤ ((rd l1 x10_2) : Int) := of_decide_eq_true mc341
      have q35 : ((rd l1 x10_2) : Int) < ((x461002_2.length : Int) : Int) := of_decide_eq_true mc341
      obtain ⟨go35, co35, eo35, gb35, gl35, cl35, HG35⟩ := Kd.R_form HO_461002.out (by omega)
      (first | cases eo35 | (injection eo35 with ea_ en_ ec_; (first | subst ea_ | (injection ea_ with ea_; subst ea_)); subst ec_; clear en_))
      have GB35 := A_ gb35
      have GG35 := A_ HG35
      clear gb35 gl35 HG35
      obtain ⟨hx35_0, hf35_0⟩ := Kd.R_celln 0 HO_461002.out ((rd l1 x10_2) : Int) p35 q35
      replace p35 := eq_true p35
      replace q35 := eq_true q35
      have HP43 := Kd.R_putn HO_461002.out ((rd l1 x10_2) : Int) (wrap64 ((rd l0_2 (rd l1 x10_2)) + a2))
      rw [← Ny464.out] at HP43
      have HQ43 := A_ HP43
      clear HP43
      refine start_ (n := 11) (S := fun w' => w'.cell? ⟨gb460, 0, none⟩ = some (.int .i64 t455) ∧ w'.cell? ⟨gb460, 1, none⟩ = some (.int .i64 t456) ∧ w'.cell? ⟨gb460, 2, none⟩ = some (.slice (some ⟨go35, 0, none⟩) x461002_2.length co35) ∧ w'.cell? (ad461.add (x10_2).toNat) = some (.int .i64 (rd l1 x10_2))) (ds := [10]) #[false, false, false, false, false, false, false, false, false, false, false] kr_ rfl rfl ⟨bc_ BK460 0 rfl, bc_ BK460 1 rfl, bc_ BK460 2 rfl, ((HB.out.cell (World.block_lt_of_cell? w _ hw463_0)).trans hw463_0)⟩ (fun hHeld => ?_); refine with_tabW spec_AddToRegion.tab10 spec_AddToRegion.bits10 (fun HT_ HW_ => ?_)
      generalize w41.drew = w42 at HO_461002 BK451 BK452 BK460 HB GG35 HQ43 hf35_0 hx35_0 hx463_0 hHeld ⊢
      refine pure_ (i := 0) (N := some 40) #[true, false, false, false, false, false, false, false, false, false, false] rfl rfl (any_of HT_.out kr_) (fun _ _ _ h => h) (Or.inl ⟨by rfl, mc354⟩) mc312 ?_
      refine pure_ (i := 2) (N := some 42) #[true, false, true, false, false, false, false, false, false, false, false] rfl rfl (any_of HT_.out kr_) (fun _ _ _ h => h) (Or.inl ⟨by rfl, mc354⟩) mc312 ?_
      refine pure_ (i := 3) (N := some 43) #[true, false, true, true, false, false, false, false, false, false, false] rfl rfl (any_of HT_.out kr_) (fun _ _ _ h => h) (Or.inl ⟨by rfl, mc354⟩) mc312 ?_
      refine pure_ (i := 4) (N := some 44) #[true, false, true, true, true, false, false, false, false, false, false] rfl rfl (any_of HT_.out kr_) (fun _ _ _ h => h) (Or.inl ⟨by rfl, mc354⟩) mc312 ?_
      refine pure_ (i := 6) (N := some 46) #[true, false, true, true, true, false, true, false, false, false, false] rfl rfl (any_of HT_.out kr_) (fun _ _ _ h => h) (Or.inl ⟨by rfl, mc354⟩) mc312 ?_
      refine pure_ (i := 7) (N := some 47) #[true, false, true, true, true, false, true, true, false, false, false] rfl rfl (any_of HT_.out kr_) (fun _ _ _ h => h) (Or.inl ⟨by rfl, mc354⟩) mc312 ?_
      refine pure_ (i := 8) (N := some 48) #[true, false, true, true, true, false, true, true, true, false, false] rfl rfl (any_of HT_.out kr_) (fun _ _ _ h => h) (Or.inl ⟨by rfl, mc354⟩) mc312 ?_
      refine take_ (i := 1) (N := some 41) #[true, true, true, true, true, false, true, true, true, false, false] rfl rfl (take_ofW HT_.out HW_.out kr_) (fun _ _ _ h => h) (Or.inl ⟨by rfl, mc339⟩) hHeld mc312 ?_
      refine take_ (i := 5) (N := some 45) #[true, true, true, true, true, true, true, true, true, false, false] rfl rfl (take_ofW HT_.out HW_.out kr_) (fun _ _ _ h => h) (Or.inl ⟨by rfl, mc339⟩) hHeld mc312 ?_
      refine pure_ (i := 9) (N := some 49) #[true, true, true, true, true, true, true, true, true, true, false] rfl rfl (any_of HT_.out kr_) (fun _ _ _ h => h) (Or.inl ⟨by rfl, mc354⟩) mc312 ?_
      refine last_ (i := 10) (N := none) #[true, true, true, true, true, true, true, true, true, true, true] rfl rfl (one_of HT_.out kr_) (by decide) (fun K hK => ?_)
      refine skip_ (w1 := ?_) (by rfl) rfl ?_ ?_
      rotate_left
      ·
       go_simp
       rfl
      refine hK.out _ _ ?_
      clear hK K
      refine done_ (done_of HT_.out kr_) ?_
      try go_wp2
      go_roundg k2
      case measure => have := HJ3.out; have := HK2.out; omega
      case rel => exact ⟨(false), (wrap64 (x10_2 + 1)), (y464), (.slice (some ⟨go35, 0, none⟩) x461002_2.length co35), mc352, mc352, H', ⟨by have := HJ3.out; have := HK2.out; omega⟩, ⟨by (with_reducible repeat (first | apply Kd.R_alloc | apply Kd.R_drewN | apply Kd.R_drew)); exact HQ43.out⟩, ⟨mc64⟩, ⟨mc65⟩, ⟨mc66⟩, ⟨mc90⟩⟩
     subst c36
     rw [if_pos rfl] at H
     obtain ⟨t465, A370, H⟩ := oB_ H
     have A37 := A_ A370
     clear A370
     have H' := A_ H
     clear H
     try go_wp2
     replace HO_461002 := A_ (Kd.R_drew HO_461002.out)
     replace BK451 := A_ (blk_drew BK451.out)
     replace BK452 := A_ (blk_drew BK452.out)
     replace BK460 := A_ (blk_drew BK460.out)
     replace HB := A_ (below_drew1 HB.out)
     have p461 : 0 ≤ (x10_2 : Int) := of_decide_eq_true mc341
     have q461 : x10_2 < (l1.length : Int) := of_decide_eq_true mc341
     obtain ⟨ad461, e461, hx461_0⟩ := Kd.at_int HR1.out x10_2 p461 q461
     have hw461_0 := hx461_0
     cases e461
     replace hx461_0 := (HB.out.cell (World.block_lt_of_cell? w _ hx461_0)).trans hx461_0
     replace p461 := eq_true p461
     replace q461 := eq_true q461
     have p462 : 0 ≤ ((rd l1 x10_2) : Int) := of_decide_eq_true mc341
     have q462 : (rd l1 x10_2) < (l0_2.length : Int) := of_decide_eq_true mc341
     obtain ⟨ad462, e462, hx462_0⟩ := Kd.at_int HR0_2.out (rd l1 x10_2) p462 q462
     have hw462_0 := hx462_0
     cases e462
     replace hx462_0 := (HB.out.cell (World.block_lt_of_cell? w _ hx462_0)).trans hx462_0
     replace p462 := eq_true p462
     replace q462 := eq_true q462
     refine start_ (n := 9) (S := fun w' => w'.cell? ⟨gb451, 0, none⟩ = some (.int .i64 a0_0) ∧ w'.cell? ⟨gb451, 1, none⟩ = some (.int .i64 a0_1) ∧ w'.cell? ⟨gb451, 2, none⟩ = some (.slice (some ad462) l0_2.length c0_2) ∧ w'.cell? (ad461.add (x10_2).toNat) = some (.int .i64 (rd l1 x10_2)) ∧ w'.cell? (ad462.add ((rd l1 x10_2)).toNat) = some (.int .i64 (rd l0_2 (rd l1 x10_2)))) (ds := []) #[false, false, false, false, false, false, false, false, false] kr_ rfl rfl ⟨bc_ BK451 0 rfl, bc_ BK451 1 rfl, bc_ BK451 2 rfl, ((HB.out.cell (World.block_lt_of_cell? w _ hw461_0)).trans hw461_0), ((HB.out.cell (World.block_lt_of_cell? w _ hw462_0)).trans hw462_0)⟩ (fun hHeld => ?_); refine with_tabW spec_AddToRegion.tab8 spec_AddToRegion.bits8 (fun HT_ HW_ => ?_)
     generalize wr.drew = w38 at HO_461002 BK451 BK452 BK460 HB hx461_0 hx462_0 hHeld ⊢
     refine pure_ (i := 0) (N := some 30) #[true, false, false, false, false, false, false, false, false] rfl rfl (any_of HT_.out kr_) (fun _ _ _ h => h) (Or.inl ⟨by rfl, mc354⟩) mc312 ?_
     refine pure_ (i := 2) (N := some 32) #[true, false, true, false, false, false, false, false, false] rfl rfl (any_of HT_.out kr_) (fun _ _ _ h => h) (Or.inl ⟨by rfl, mc354⟩) mc312 ?_
     refine pure_ (i := 3) (N := some 33) #[true, false, true, true, false, false, false, false, false] rfl rfl (any_of HT_.out kr_) (fun _ _ _ h => h) (Or.inl ⟨by rfl, mc354⟩) mc312 ?_
     refine pure_ (i := 4) (N := some 34) #[true, false, true, true, true, false, false, false, false] rfl rfl (any_of HT_.out kr_) (fun _ _ _ h => h) (Or.inl ⟨by rfl, mc354⟩) mc312 ?_
     refine take_ (i := 1) (N := some 31) #[true, true, true, true, true, false, false, false, false] rfl rfl (take_ofW HT_.out HW_.out kr_) (fun _ _ _ h => h) (Or.inl ⟨by rfl, mc337⟩) hHeld mc312 ?_
     refine take_ (i := 5) (N := some 35) #[true, true, true, true, true, true, false, false, false] rfl rfl (take_ofW HT_.out HW_.out kr_) (fun _ _ _ h => h) (Or.inl ⟨by rfl, mc337⟩) hHeld mc312 ?_
     refine pure_ (i := 6) (N := some 36) #[true, true, true, true, true, true, true, false, false] rfl rfl (any_of HT_.out kr_) (fun _ _ _ h => h) (Or.inl ⟨by rfl, mc354⟩) mc312 ?_
     refine take_ (i := 7) (N := some 37) #[true, true, true, true, true, true, true, true, false] rfl rfl (take_ofW HT_.out HW_.out kr_) (fun _ _ _ h => h) (Or.inl ⟨by rfl, mc337⟩) hHeld mc312 ?_
     refine pure_ (i := 8) (N := some 11) #[true, true, true, true, true, true, true, true, true] rfl rfl (any_of HT_.out kr_) (fun _ _ _ h => h) (Or.inl ⟨by rfl, mc354⟩) mc312 ?_
     refine done_ (done_of HT_.out kr_) ?_
     try go_wp2
     replace HO_461002 := A_ (Kd.R_drew HO_461002.out)
     replace BK451 := A_ (blk_drew BK451.out)
     replace BK452 := A_ (blk_drew BK452.out)
     replace BK460 := A_ (blk_drew BK460.out)
     replace HB := A_ (below_drew1 HB.out)
     have p463 : 0 ≤ (x10_2 : Int) := of_decide_eq_true mc341
     have q463 : x10_2 < (l1.length : Int) := of_decide_eq_true mc341
     obtain ⟨ad463, e463, hx463_0⟩ := Kd.at_int HR1.out x10_2 p463 q463
     have hw463_0 := hx463_0
     obtain rfl : ad461 = ad463 := (by injection e463)
     replace hx463_0 := (HB.out.cell (World.block_lt_of_cell? w _ hx463_0)).trans hx463_0
     replace p463 := eq_true p463
     replace q463 := eq_true q463
     have p35 : 0 ≤ ((rd l1 x10_2) : Int) := of_decide_eq_true mc341
     have q35 : ((rd l1 x10_2) : Int) < ((x461002_2.length : Int) : Int) := of_decide_eq_true mc341
     obtain ⟨go35, co35, eo35, gb35, gl35, cl35, HG35⟩ := Kd.R_form HO_461002.out (by omega)
     (first | cases eo35 | (injection eo35 with ea_ en_ ec_; (first | subst ea_ | (injection ea_ with ea_; subst ea_)); subst ec_; clear en_))
     have GB35 := A_ gb35
     have GG35 := A_ HG35
     clear gb35 gl35 HG35
     obtain ⟨hx35_0, hf35_0⟩ := Kd.R_celln 0 HO_461002.out ((rd l1 x10_2) : Int) p35 q35
     replace p35 := eq_true p35
     replace q35 := eq_true q35
     have HP40 := Kd.R_putn HO_461002.out ((rd l1 x10_2) : Int) (wrap64 ((rd l0_2 (rd l1 x10_2)) + a2))
     rw [← Ny464.out] at HP40
     have HQ40 := A_ HP40
     clear HP40
     refine start_ (n := 11) (S := fun w' => w'.cell? ⟨gb460, 0, none⟩ = some (.int .i64 t455) ∧ w'.cell? ⟨gb460, 1, none⟩ = some (.int .i64 t456) ∧ w'.cell? ⟨gb460, 2, none⟩ = some (.slice (some ⟨go35, 0, none⟩) x461002_2.length co35) ∧ w'.cell? (ad461.add (x10_2).toNat) = some (.int .i64 (rd l1 x10_2))) (ds := [10]) #[false, false, false, false, false, false, false, false, false, false, false] kr_ rfl rfl ⟨bc_ BK460 0 rfl, bc_ BK460 1 rfl, bc_ BK460 2 rfl, ((HB.out.cell (World.block_lt_of_cell? w _ hw463_0)).trans hw463_0)⟩ (fun hHeld => ?_); refine with_tabW spec_AddToRegion.tab10 spec_AddToRegion.bits10 (fun HT_ HW_ => ?_)
     generalize w38.drew = w39 at HO_461002 BK451 BK452 BK460 HB GG35 HQ40 hf35_0 hx35_0 hx463_0 hHeld ⊢
     refine pure_ (i := 0) (N := some 40) #[true, false, false, false, false, false, false, false, false, false, false] rfl rfl (any_of HT_.out kr_) (fun _ _ _ h => h) (Or.inl ⟨by rfl, mc354⟩) mc312 ?_
     refine pure_ (i := 2) (N := some 42) #[true, false, true, false, false, false, false, false, false, false, false] rfl rfl (any_of HT_.out kr_) (fun _ _ _ h => h) (Or.inl ⟨by rfl, mc354⟩) mc312 ?_
     refine pure_ (i := 3) (N := some 43) #[true, false, true, true, false, false, false, false, false, false, false] rfl rfl (any_of HT_.out kr_) (fun _ _ _ h => h) (Or.inl ⟨by rfl, mc354⟩) mc312 ?_
     refine pure_ (i := 4) (N := some 44) #[true, false, true, true, true, false, false, false, false, false, false] rfl rfl (any_of HT_.out kr_) (fun _ _ _ h => h) (Or.inl ⟨by rfl, mc354⟩) mc312 ?_
     refine pure_ (i := 6) (N := some 46) #[true, false, true, true, true, false, true, false, false, false, false] rfl rfl (any_of HT_.out kr_) (fun _ _ _ h => h) (Or.inl ⟨by rfl, mc354⟩) mc312 ?_
     refine pure_ (i := 7) (N := some 47) #[true, false, true, true, true, false, true, true, false, false, false] rfl rfl (any_of HT_.out kr_) (fun _ _ _ h => h) (Or.inl ⟨by rfl, mc354⟩) mc312 ?_
     refine pure_ (i := 8) (N := some 48) #[true, false, true, true, true, false, true, true, true, false, false] rfl rfl (any_of HT_.out kr_) (fun _ _ _ h => h) (Or.inl ⟨by rfl, mc354⟩) mc312 ?_
     refine take_ (i := 1) (N := some 41) #[true, true, true, true, true, false, true, true, true, false, false] rfl rfl (take_ofW HT_.out HW_.out kr_) (fun _ _ _ h => h) (Or.inl ⟨by rfl, mc339⟩) hHeld mc312 ?_
     refine take_ (i := 5) (N := some 45) #[true, true, true, true, true, true, true, true, true, false, false] rfl rfl (take_ofW HT_.out HW_.out kr_) (fun _ _ _ h => h) (Or.inl ⟨by rfl, mc339⟩) hHeld mc312 ?_
     refine pure_ (i := 9) (N := some 49) #[true, true, true, true, true, true, true, true, true, true, false] rfl rfl (any_of HT_.out kr_) (fun _ _ _ h => h) (Or.inl ⟨by rfl, mc354⟩) mc312 ?_
     refine last_ (i := 10) (N := none) #[true, true, true, true, true, true, true, true, true, true, true] rfl rfl (one_of HT_.out kr_) (by decide) (fun K hK => ?_)
     refine skip_ (w1 := ?_) (by rfl) rfl ?_ ?_
     rotate_left
     ·
      go_simp
      rfl
     refine hK.out _ _ ?_
     clear hK K
     refine done_ (done_of HT_.out kr_) ?_
     try go_wp2_with (first | (go_at_call 66; (with_reducible refine (spec_l1In.calls (wrap64 ((rd l0_2 (rd l1 x10_2)) + a2)) (-9000) 9000 t465 _ A37.out).mono ?_); rintro e w' ⟨rfl, ⟨nd, rfl⟩⟩))
     go_roundg k2
     case measure => have := HJ3.out; have := HK2.out; omega
     case rel => exact ⟨(t465), (wrap64 (x10_2 + 1)), (y464), (.slice (some ⟨go35, 0, none⟩) x461002_2.length co35), mc352, mc352, H', ⟨by have := HJ3.out; have := HK2.out; omega⟩, ⟨by (with_reducible repeat (first | apply Kd.R_alloc | apply Kd.R_drewN | apply Kd.R_drew)); exact HQ40.out⟩, ⟨mc64⟩, ⟨mc65⟩, ⟨mc66⟩, ⟨mc90⟩⟩

end Go.Proofs.Ytdmkbfjipgaloaa.P
