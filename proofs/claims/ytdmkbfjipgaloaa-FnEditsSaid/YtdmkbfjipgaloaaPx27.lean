-- Made by pp.py of this session out of the kit's print and of contracts proved by hand; Lean checks it.
import Derived.Test.YtdmkbfjipgaloaaMc
import Derived.Test.YtdmkbfjipgaloaaPx0
import Derived.Test.YtdmkbfjipgaloaaPx6
import Derived.Test.YtdmkbfjipgaloaaPx9
import Derived.Test.YtdmkbfjipgaloaaPx26
namespace Go.Proofs.Ytdmkbfjipgaloaa.P
open Go.RowKit Go.Proofs.YtdmkbfjipgaloaaW.PrintWords Go.Proofs.YtdmkbfjipgaloaaW.PrintLast Go.Proofs.YtdmkbfjipgaloaaW.PrintMore
attribute [local go_sem] max2_int min2_int max_two min_two max_three min_three max_four min_four   -- for this text's walks alone
set_option linter.unusedVariables false
set_option linter.unusedSimpArgs false

/-! ### spec_SpreadMean: function 34 -/
mutual
def spec_SpreadMean.j0 : Nat → List Int → Bool → Int → Int → List Int → Option (Int × Int × List Int × Bool)
 | 0, _, _, _, _, _ => none
 | k + 1, x1, x20, x486000, x486001, x486002 => if x20 = true then (some (0, 0, ([] : List Int), false)) else (spec_SpreadMean.l0 k x1 0 0 x486000 x486001 x486002)
def spec_SpreadMean.l0 : Nat → List Int → Int → Int → Int → Int → List Int → Option (Int × Int × List Int × Bool)
 | 0, _, _, _, _, _, _ => none
 | k + 1, x1, x6, x7, x486000, x486001, x486002 => if x7 < (x1.length : Int) then (if 0 ≤ x7 then (if 0 ≤ (rd x1 x7) then (if (rd x1 x7) < (x486002.length : Int) then (if (rd x486002 (rd x1 x7)) = (-9999) then (some (0, 0, ([] : List Int), false)) else (spec_SpreadMean.l0 k x1 (wrap64 (x6 + (rd x486002 (rd x1 x7)))) (wrap64 (x7 + 1)) x486000 x486001 x486002)) else (none)) else (none)) else (none)) else ((spec_l2Own.f x486000 x486001 x486002).bind fun bt492 => ((spec_l4Floor.f x6 (x1.length : Int)).bind fun t498 => (spec_SpreadMean.l1 k x1 t498 (wrap64 (x6 - (wrap64 (t498 * (x1.length : Int))))) 0 bt492.1 bt492.2.1 bt492.2.2)))
def spec_SpreadMean.l1 : Nat → List Int → Int → Int → Int → Int → Int → List Int → Option (Int × Int × List Int × Bool)
 | 0, _, _, _, _, _, _, _ => none
 | k + 1, x1, x9, x10, x11, x498000, x498001, x498002 => if x11 < (x1.length : Int) then (if 0 ≤ x11 then (if 0 ≤ (rd x1 x11) then (if (rd x1 x11) < (x498002.length : Int) then ((some (x498002.set ((rd x1 x11) : Int).toNat x9 : List Int)).bind fun y500 => (if x11 < x10 then (spec_SpreadMean.l1 k x1 x9 x10 (wrap64 (x11 + 1)) x498000 x498001 (y500.set ((rd x1 x11) : Int).toNat (wrap64 (x9 + 1)))) else (spec_SpreadMean.l1 k x1 x9 x10 (wrap64 (x11 + 1)) x498000 x498001 y500))) else (none)) else (none)) else (none)) else (some (x498000, x498001, x498002, true))
end
def spec_SpreadMean.f (k : Nat) (a0_0 : Int) (a0_1 : Int) (l0_2 : List Int) (l1 : List Int) : Option (Int × Int × List Int × Bool) := (spec_l23Asked.f k a0_0 a0_1 l0_2 l1).bind fun t487 => (if t487 = true then (spec_SpreadMean.j0 k l1 ((l1.length : Int) == 0) a0_0 a0_1 l0_2) else (spec_SpreadMean.j0 k l1 true a0_0 a0_1 l0_2))
def spec_SpreadMean.T7 : Bool × List (List Nat × List Nat) := (true, [([], []), ([0], [0]), ([], []), ([], []), ([2, 3], [2, 3]), ([4], [4]), ([1, 5], [1, 5]), ([6], [6]), ([7], [7])])
def spec_SpreadMean.B7 : List Nat := [0, 1, 0, 0, 12, 28, 63, 127, 255]
theorem spec_SpreadMean.tab7 : rtab .any (opsOf Try.f34 7) = spec_SpreadMean.T7 := by kernel_rfl
theorem spec_SpreadMean.bits7 : waitsOk spec_SpreadMean.T7.2 spec_SpreadMean.B7 = true := by kernel_rfl
def spec_SpreadMean.T9 : Bool × List (List Nat × List Nat) := (true, [([], []), ([], []), ([1], [1]), ([], []), ([], []), ([3, 4], [3, 4]), ([5], [5]), ([2, 6], [2, 6]), ([7], [7]), ([0, 8], [0, 8]), ([9, 0, 1, 2, 3, 4, 5, 6, 7, 8, 9], [0, 9])])
def spec_SpreadMean.B9 : List Nat := [0, 0, 2, 0, 0, 24, 56, 126, 254, 511, 1023]
theorem spec_SpreadMean.tab9 : rtab .any (opsOf Try.f34 9) = spec_SpreadMean.T9 := by kernel_rfl
theorem spec_SpreadMean.bits9 : waitsOk spec_SpreadMean.T9.2 spec_SpreadMean.B9 = true := by kernel_rfl
def spec_SpreadMean.T16 : Bool × List (List Nat × List Nat) := (true, [([], []), ([0], [0]), ([], []), ([], []), ([2, 3], [2, 3]), ([4], [4]), ([], []), ([1, 5, 0, 1, 2, 3, 4, 5, 6], [1, 5]), ([7, 6, 0, 1, 2, 3, 4, 5, 6], [6, 7])])
def spec_SpreadMean.B16 : List Nat := [0, 1, 0, 0, 12, 28, 0, 127, 255]
theorem spec_SpreadMean.tab16 : rtab .any (opsOf Try.f34 16) = spec_SpreadMean.T16 := by kernel_rfl
theorem spec_SpreadMean.bits16 : waitsOk spec_SpreadMean.T16.2 spec_SpreadMean.B16 = true := by kernel_rfl
def spec_SpreadMean.T18 : Bool × List (List Nat × List Nat) := (true, [([], []), ([0], [0]), ([], []), ([], []), ([2, 3], [2, 3]), ([4], [4]), ([], []), ([6], [6]), ([1, 5, 0, 1, 2, 3, 4, 5, 6, 7], [1, 5]), ([8, 7, 0, 1, 2, 3, 4, 5, 6, 7], [7, 8])])
def spec_SpreadMean.B18 : List Nat := [0, 1, 0, 0, 12, 28, 0, 64, 255, 511]
theorem spec_SpreadMean.tab18 : rtab .any (opsOf Try.f34 18) = spec_SpreadMean.T18 := by kernel_rfl
theorem spec_SpreadMean.bits18 : waitsOk spec_SpreadMean.T18.2 spec_SpreadMean.B18 = true := by kernel_rfl
set_option maxHeartbeats 8000000 in
set_option maxRecDepth 100000 in
theorem spec_SpreadMean.calls (k : Nat) (a0_0 : Int) (a0_1 : Int) (A0_2 : Option Addr) (c0_2 : Nat) (l0_2 : List Int) (A1 : Option Addr) (c1 : Nat) (l1 : List Int) (r1 : Int) (r2 : Int) (r3 : List Int) (r4 : Bool) (w : World) (hr0_2 : Kd.C (Kd.int .i64) w A0_2 l0_2.length l0_2) (hc0_2 : l0_2.length ≤ c0_2) (hr1 : Kd.C (Kd.int .i64) w A1 l1.length l1) (hc1 : l1.length ≤ c1) (h : spec_SpreadMean.f k a0_0 a0_1 l0_2 l1 = some (r1, r2, r3, r4)) :
  Calls Try.prog 34 #[.agg #[.int .i64 a0_0, .int .i64 a0_1, .slice A0_2 l0_2.length c0_2], .slice A1 l1.length c1] w fun e w' => ∃ v2_ : Value, e = .returned (.tuple #[.agg #[.int .i64 r1, .int .i64 r2, v2_], .bool r4]) ∧ Kd.R (Kd.int .i64) 3 w' w.heap.size (fun _ => True) v2_ r3 ∧ Below w.heap.size w w' := by
 have hu26 := Try.underlying26
 have HR0_2 := A_ hr0_2
 have HC0_2 := A_ hc0_2
 clear hr0_2 hc0_2
 have HR1 := A_ hr1
 have HC1 := A_ hc1
 clear hr1 hc1
 have HB := A_ (Below.refl w.heap.size w)
 have H : ((spec_l23Asked.f k a0_0 a0_1 l0_2 l1).bind fun t487 => (if t487 = true then (spec_SpreadMean.j0 k l1 ((l1.length : Int) == 0) a0_0 a0_1 l0_2) else (spec_SpreadMean.j0 k l1 true a0_0 a0_1 l0_2))) = some (r1, r2, r3, r4) := h
 clear h
 have HC3 := A_ H
 clear H
 go_enter Try.func34, Try.ntmps34
 go_upto_region 1 with (first | ((with_reducible refine gd_ 2 rfl ?_); (try (refine gate_guard (by rfl) ?_; dsimp only)); refine box_event rfl (N := 2) rfl (cs := #[.int .i64 a0_0, .int .i64 a0_1, .slice A0_2 l0_2.length c0_2]) (t := 26) mc353 ?_; intro gb485 hg w4 hbox hb; have BK485 := A_ (hbox); have GW485 := A_ ((mc213 : w.heap.size ≤ gb485)); have GE485 := A_ ((mc213 : w.heap.size ≤ gb485)); replace HB := A_ (below_step mc249 hb); clear hb hbox hg) | ((with_reducible refine gd_ 4 rfl ?_); (try (refine gate_guard (by rfl) ?_; dsimp only)); refine box_event rfl (N := 4) rfl (cs := #[.int .i64 0, .int .i64 0, .slice none 0 0]) (t := 26) mc353 ?_; intro gb486 hg w5 hbox hb; have BK486 := A_ (hbox); have GW486 := A_ ((mc177 : w.heap.size ≤ gb486)); have GE486 := A_ ((mc177 : w.heap.size ≤ gb486)); replace HB := A_ (below_step mc230 hb); have NB485_486 := A_ ((by rw [hg]; exact Nat.ne_of_lt (blk_lt mc292) : gb485 ≠ gb486)); have NB486_485 := A_ ((by rw [hg]; exact Nat.ne_of_gt (blk_lt mc292) : gb486 ≠ gb485)); replace BK485 := A_ (blk_below mc292 hb); clear hb hbox hg))
 (try simp only [Act.put, List.setIfInBounds_toArray, List.set_cons_zero, List.set_cons_succ])
 go_cut [20] (fun v20 wc => ∃ (kq : Nat) (x20_2 : Bool), v20 = .bool x20_2 ∧ Aside0 (spec_SpreadMean.j0 kq l1 x20_2 a0_0 a0_1 l0_2 = some (r1, r2, r3, r4)) ∧ Aside0 (kq ≤ k) ∧ Aside0 (wc.heap[gb485]? = some (.cells #[.int .i64 a0_0, .int .i64 a0_1, (.slice A0_2 l0_2.length c0_2)] 26 (0, 0))) ∧ Aside0 (wc.heap[gb486]? = some (.cells #[.int .i64 0, .int .i64 0, (.slice none 0 0)] 26 (0, 0))) ∧ Aside0 (Below w.heap.size w wc))
 case first =>
  have H := HC3.out
  clear HC3
  obtain ⟨t487, A60, H⟩ := oB_ H
  have A6 := A_ A60
  clear A60
  by_cases c7 : t487 = true
  ·
   subst c7
   rw [if_pos rfl] at H
   have H' := A_ H
   clear H
   have hnb8 := NB485_486.out
   have hnc8 := NB486_485.out
   have hcz9_0 : w5.cell? ⟨gb485, 0, none⟩ = some (.int .i64 a0_0) := bc_ BK485 0 rfl
   have hcz9_1 : w5.cell? ⟨gb485, 1, none⟩ = some (.int .i64 a0_1) := bc_ BK485 1 rfl
   have hcz9_2 : w5.cell? ⟨gb485, 2, none⟩ = some (.slice A0_2 l0_2.length c0_2) := bc_ BK485 2 rfl
   have hfz9_0 := blk_frozen BK485.out 0
   have hfz9_1 := blk_frozen BK485.out 1
   have hfz9_2 := blk_frozen BK485.out 2
   go_wp2_with (first | ((with_reducible refine gc_ 55 rfl ?_); refine goesL_ (some 14) rfl rfl Try.func55 kr_ rfl #[.agg #[.int .i64 a0_0, .int .i64 a0_1, .slice A0_2 l0_2.length c0_2], .slice A1 l1.length c1] rfl mc247 ?_; (with_reducible refine (spec_l23Asked.calls k a0_0 a0_1 _ _ l0_2 _ _ l1 true _ ?side1 ?side2 ?side3 ?side4 A6.out).mono ?_); (case side1 => exact mc200); (case side2 => exact HC0_2.out); (case side3 => exact mc205); (case side4 => exact HC1.out); rintro e w10 ⟨rfl, hb⟩; refine ⟨_, rfl, ?_⟩; replace BK485 := A_ (blk_below mc292 hb); replace BK486 := A_ (blk_below mc293 hb); replace HB := A_ (below_step mc190 hb); (try clear hb)))
   go_meet
   case rel => exact ⟨_, (((l1.length : Int) == 0)), mc352, H', ⟨mc355⟩, ⟨mc292⟩, ⟨mc293⟩, ⟨mc190⟩⟩
  replace c7 := Bool.eq_false_iff.mpr c7
  subst c7
  rw [if_neg (show ¬ (false = true) by decide)] at H
  have H' := A_ H
  clear H
  have hnb11 := NB485_486.out
  have hnc11 := NB486_485.out
  have hcz12_0 : w5.cell? ⟨gb485, 0, none⟩ = some (.int .i64 a0_0) := bc_ BK485 0 rfl
  have hcz12_1 : w5.cell? ⟨gb485, 1, none⟩ = some (.int .i64 a0_1) := bc_ BK485 1 rfl
  have hcz12_2 : w5.cell? ⟨gb485, 2, none⟩ = some (.slice A0_2 l0_2.length c0_2) := bc_ BK485 2 rfl
  have hfz12_0 := blk_frozen BK485.out 0
  have hfz12_1 := blk_frozen BK485.out 1
  have hfz12_2 := blk_frozen BK485.out 2
  go_wp2_with (first | ((with_reducible refine gc_ 55 rfl ?_); refine goesL_ (some 14) rfl rfl Try.func55 kr_ rfl #[.agg #[.int .i64 a0_0, .int .i64 a0_1, .slice A0_2 l0_2.length c0_2], .slice A1 l1.length c1] rfl mc247 ?_; (with_reducible refine (spec_l23Asked.calls k a0_0 a0_1 _ _ l0_2 _ _ l1 false _ ?side1 ?side2 ?side3 ?side4 A6.out).mono ?_); (case side1 => exact mc200); (case side2 => exact HC0_2.out); (case side3 => exact mc205); (case side4 => exact HC1.out); rintro e w13 ⟨rfl, hb⟩; refine ⟨_, rfl, ?_⟩; replace BK485 := A_ (blk_below mc292 hb); replace BK486 := A_ (blk_below mc293 hb); replace HB := A_ (below_step mc190 hb); (try clear hb)))
  go_meet
  case rel => exact ⟨_, (true), mc352, H', ⟨mc355⟩, ⟨mc292⟩, ⟨mc293⟩, ⟨mc190⟩⟩
 case rest =>
  clear HC3
  try clear p2
  obtain ⟨kq, x20_2, rfl, HA, HJ2, BK485, BK486, HB⟩ := hcut
  cases kq with
  | zero => exact absurd HA.out (by simp [spec_SpreadMean.j0])
  | succ kj2 =>
   have H := HA.out
   clear HA
   simp only [spec_SpreadMean.j0] at H
   by_cases c14 : x20_2 = true
   ·
    subst c14
    rw [if_pos rfl] at H
    simp only [Option.some.injEq, Prod.mk.injEq] at H
    obtain ⟨rfl, rfl, rfl, rfl⟩ := H
    have hnb15 := NB486_485.out
    have hnc15 := NB485_486.out
    have hcz16_0 : wc.cell? ⟨gb486, 0, none⟩ = some (.int .i64 0) := bc_ BK486 0 rfl
    have hcz16_1 : wc.cell? ⟨gb486, 1, none⟩ = some (.int .i64 0) := bc_ BK486 1 rfl
    have hcz16_2 : wc.cell? ⟨gb486, 2, none⟩ = some (.slice none 0 0) := bc_ BK486 2 rfl
    have hfz16_0 := blk_frozen BK486.out 0
    have hfz16_1 := blk_frozen BK486.out 1
    have hfz16_2 := blk_frozen BK486.out 2
    go_wp2
    refine bodyPost_ret (results_ct rfl _ _ gb486 26 #[.int .i64 0, .int .i64 0, .slice none 0 0] (0, 0) _ rfl (by (with_reducible repeat (first | refine blk_drewN ?_ _ | refine blk_drew ?_ | refine blk_alloc ?_ _)); refine blk_put (cs := #[.int .i64 0, .int .i64 0, .slice none 0 0]) ?_ 2 _ rfl; (with_reducible repeat (first | refine blk_drewN ?_ _ | refine blk_drew ?_ | refine blk_alloc ?_ _)); refine blk_put (cs := #[.int .i64 0, .int .i64 0, .slice none 0 0]) ?_ 1 _ rfl; (with_reducible repeat (first | refine blk_drewN ?_ _ | refine blk_drew ?_ | refine blk_alloc ?_ _)); refine blk_put (cs := #[.int .i64 0, .int .i64 0, .slice none 0 0]) ?_ 0 _ rfl; (with_reducible repeat (first | refine blk_drewN ?_ _ | refine blk_drew ?_ | refine blk_alloc ?_ _)); exact BK486.out) Try.underlying26 rfl kr_) rfl ?_
    exact ⟨_, mc332, mc246, mc190⟩
   replace c14 := Bool.eq_false_iff.mpr c14
   subst c14
   rw [if_neg (show ¬ (false = true) by decide)] at H
   have H' := A_ H
   clear H
   go_wp2
   go_loopg [6, 7] kj2 (fun kq v6 v7 w' => ∃ (x6_2 : Int) (x7_2 : Int) (x487000_2 : Int) (x487001_2 : Int), v6 = .int .i64 x6_2 ∧ v7 = .int .i64 x7_2 ∧ Aside0 (spec_SpreadMean.l0 kq l1 x6_2 x7_2 a0_0 a0_1 l0_2 = some (r1, r2, r3, r4)) ∧ Aside0 (kq ≤ kj2) ∧ Aside0 (w'.heap[gb485]? = some (.cells #[.int .i64 a0_0, .int .i64 a0_1, (.slice A0_2 l0_2.length c0_2)] 26 (0, 0))) ∧ Aside0 (w'.heap[gb486]? = some (.cells #[.int .i64 x487000_2, .int .i64 x487001_2, (.slice none 0 0)] 26 (0, 0))) ∧ Aside0 (Below w.heap.size w w'))
   case atStart => exact ⟨(0), (0), (0), (0), mc352, mc352, H', ⟨Nat.le_refl _⟩, ⟨mc292⟩, ⟨mc293⟩, ⟨mc190⟩⟩
   case round =>
    clear H'
    try clear p2
    try clear p2
    obtain ⟨x6_2, x7_2, x487000_2, x487001_2, rfl, rfl, HA, HK2, BK485, BK486, HB⟩ := hrel
    cases gk with
    | zero => exact absurd HA.out (by simp [spec_SpreadMean.l0])
    | succ k2 =>
     have H := HA.out
     clear HA
     simp only [spec_SpreadMean.l0] at H
     by_cases c17 : x7_2 < (l1.length : Int)
     ·
      rw [if_pos c17] at H
      have c17b0 : decide (x7_2 < (l1.length : Int)) = true := decide_eq_true c17
      clear c17
      by_cases c18 : 0 ≤ x7_2
      rotate_left
      ·
       rw [if_neg c18] at H
       exact absurd H (by simp)
      rw [if_pos c18] at H
      have c18b0 : decide (0 ≤ x7_2) = true := decide_eq_true c18
      clear c18
      by_cases c19 : 0 ≤ (rd l1 x7_2)
      rotate_left
      ·
       rw [if_neg c19] at H
       exact absurd H (by simp)
      rw [if_pos c19] at H
      have c19b0 : decide (0 ≤ (rd l1 x7_2)) = true := decide_eq_true c19
      clear c19
      by_cases c20 : (rd l1 x7_2) < (l0_2.length : Int)
      rotate_left
      ·
       rw [if_neg c20] at H
       exact absurd H (by simp)
      rw [if_pos c20] at H
      have c20b0 : decide ((rd l1 x7_2) < (l0_2.length : Int)) = true := decide_eq_true c20
      clear c20
      by_cases c21 : (rd l0_2 (rd l1 x7_2)) = (-9999)
      ·
       rw [if_pos c21] at H
       have c21b0 : ((rd l0_2 (rd l1 x7_2)) == (-9999)) = true := beq_iff_eq.mpr c21
       have c21b1 : ((rd l0_2 (rd l1 x7_2)) != (-9999)) = false := bne_eq_false_iff_eq.mpr c21
       clear c21
       simp only [Option.some.injEq, Prod.mk.injEq] at H
       obtain ⟨rfl, rfl, rfl, rfl⟩ := H
       try go_wp2
       replace BK485 := A_ (blk_drew BK485.out)
       replace BK486 := A_ (blk_drew BK486.out)
       replace HB := A_ (below_drew1 HB.out)
       have p488 : 0 ≤ (x7_2 : Int) := of_decide_eq_true mc341
       have q488 : x7_2 < (l1.length : Int) := of_decide_eq_true mc341
       obtain ⟨ad488, e488, hx488_0⟩ := Kd.at_int HR1.out x7_2 p488 q488
       have hw488_0 := hx488_0
       cases e488
       replace hx488_0 := (HB.out.cell (World.block_lt_of_cell? w _ hx488_0)).trans hx488_0
       replace p488 := eq_true p488
       replace q488 := eq_true q488
       have p489 : 0 ≤ ((rd l1 x7_2) : Int) := of_decide_eq_true mc341
       have q489 : (rd l1 x7_2) < (l0_2.length : Int) := of_decide_eq_true mc341
       obtain ⟨ad489, e489, hx489_0⟩ := Kd.at_int HR0_2.out (rd l1 x7_2) p489 q489
       have hw489_0 := hx489_0
       cases e489
       replace hx489_0 := (HB.out.cell (World.block_lt_of_cell? w _ hx489_0)).trans hx489_0
       replace p489 := eq_true p489
       replace q489 := eq_true q489
       refine start_ (n := 9) (S := fun w' => w'.cell? ⟨gb485, 0, none⟩ = some (.int .i64 a0_0) ∧ w'.cell? ⟨gb485, 1, none⟩ = some (.int .i64 a0_1) ∧ w'.cell? ⟨gb485, 2, none⟩ = some (.slice (some ad489) l0_2.length c0_2) ∧ w'.cell? (ad488.add (x7_2).toNat) = some (.int .i64 (rd l1 x7_2)) ∧ w'.cell? (ad489.add ((rd l1 x7_2)).toNat) = some (.int .i64 (rd l0_2 (rd l1 x7_2)))) (ds := []) #[false, false, false, false, false, false, false, false, false] kr_ rfl rfl ⟨bc_ BK485 0 rfl, bc_ BK485 1 rfl, bc_ BK485 2 rfl, ((HB.out.cell (World.block_lt_of_cell? w _ hw488_0)).trans hw488_0), ((HB.out.cell (World.block_lt_of_cell? w _ hw489_0)).trans hw489_0)⟩ (fun hHeld => ?_); refine with_tabW spec_SpreadMean.tab7 spec_SpreadMean.bits7 (fun HT_ HW_ => ?_)
       generalize wr.drew = w22 at BK485 BK486 HB hx488_0 hx489_0 hHeld ⊢
       refine pure_ (i := 0) (N := some 28) #[true, false, false, false, false, false, false, false, false] rfl rfl (any_of HT_.out kr_) (fun _ _ _ h => h) (Or.inl ⟨by rfl, mc354⟩) mc312 ?_
       refine pure_ (i := 2) (N := some 30) #[true, false, true, false, false, false, false, false, false] rfl rfl (any_of HT_.out kr_) (fun _ _ _ h => h) (Or.inl ⟨by rfl, mc354⟩) mc312 ?_
       refine pure_ (i := 3) (N := some 31) #[true, false, true, true, false, false, false, false, false] rfl rfl (any_of HT_.out kr_) (fun _ _ _ h => h) (Or.inl ⟨by rfl, mc354⟩) mc312 ?_
       refine pure_ (i := 4) (N := some 32) #[true, false, true, true, true, false, false, false, false] rfl rfl (any_of HT_.out kr_) (fun _ _ _ h => h) (Or.inl ⟨by rfl, mc354⟩) mc312 ?_
       refine take_ (i := 1) (N := some 29) #[true, true, true, true, true, false, false, false, false] rfl rfl (take_ofW HT_.out HW_.out kr_) (fun _ _ _ h => h) (Or.inl ⟨by rfl, mc337⟩) hHeld mc312 ?_
       refine take_ (i := 5) (N := some 33) #[true, true, true, true, true, true, false, false, false] rfl rfl (take_ofW HT_.out HW_.out kr_) (fun _ _ _ h => h) (Or.inl ⟨by rfl, mc337⟩) hHeld mc312 ?_
       refine pure_ (i := 6) (N := some 34) #[true, true, true, true, true, true, true, false, false] rfl rfl (any_of HT_.out kr_) (fun _ _ _ h => h) (Or.inl ⟨by rfl, mc354⟩) mc312 ?_
       refine take_ (i := 7) (N := some 35) #[true, true, true, true, true, true, true, true, false] rfl rfl (take_ofW HT_.out HW_.out kr_) (fun _ _ _ h => h) (Or.inl ⟨by rfl, mc337⟩) hHeld mc312 ?_
       refine pure_ (i := 8) (N := some 36) #[true, true, true, true, true, true, true, true, true] rfl rfl (any_of HT_.out kr_) (fun _ _ _ h => h) (Or.inl ⟨by rfl, mc354⟩) mc312 ?_
       refine done_ (done_of HT_.out kr_) ?_
       have hnb23 := NB486_485.out
       have hnc23 := NB485_486.out
       have hcz24_0 : w22.cell? ⟨gb486, 0, none⟩ = some (.int .i64 x487000_2) := bc_ BK486 0 rfl
       have hcz24_1 : w22.cell? ⟨gb486, 1, none⟩ = some (.int .i64 x487001_2) := bc_ BK486 1 rfl
       have hcz24_2 : w22.cell? ⟨gb486, 2, none⟩ = some (.slice none 0 0) := bc_ BK486 2 rfl
       have hfz24_0 := blk_frozen BK486.out 0
       have hfz24_1 := blk_frozen BK486.out 1
       have hfz24_2 := blk_frozen BK486.out 2
       try go_wp2
       refine bodyPost_ret (results_ct rfl _ _ gb486 26 #[.int .i64 0, .int .i64 0, .slice none 0 0] (0, 0) _ rfl (by (with_reducible repeat (first | refine blk_drewN ?_ _ | refine blk_drew ?_ | refine blk_alloc ?_ _)); refine blk_put (cs := #[.int .i64 0, .int .i64 0, .slice none 0 0]) ?_ 2 _ rfl; (with_reducible repeat (first | refine blk_drewN ?_ _ | refine blk_drew ?_ | refine blk_alloc ?_ _)); refine blk_put (cs := #[.int .i64 0, .int .i64 x487001_2, .slice none 0 0]) ?_ 1 _ rfl; (with_reducible repeat (first | refine blk_drewN ?_ _ | refine blk_drew ?_ | refine blk_alloc ?_ _)); refine blk_put (cs := #[.int .i64 x487000_2, .int .i64 x487001_2, .slice none 0 0]) ?_ 0 _ rfl; (with_reducible repeat (first | refine blk_drewN ?_ _ | refine blk_drew ?_ | refine blk_alloc ?_ _)); exact BK486.out) Try.underlying26 rfl kr_) rfl ?_
       exact ⟨_, mc332, mc246, mc190⟩
      rw [if_neg c21] at H
      have c21b0 : ((rd l0_2 (rd l1 x7_2)) == (-9999)) = false := beq_eq_false_iff_ne.mpr c21
      have c21b1 : ((rd l0_2 (rd l1 x7_2)) != (-9999)) = true := bne_iff_ne.mpr c21
      have H' := A_ H
      clear H
      try go_wp2
      replace BK485 := A_ (blk_drew BK485.out)
      replace BK486 := A_ (blk_drew BK486.out)
      replace HB := A_ (below_drew1 HB.out)
      have p488 : 0 ≤ (x7_2 : Int) := of_decide_eq_true mc341
      have q488 : x7_2 < (l1.length : Int) := of_decide_eq_true mc341
      obtain ⟨ad488, e488, hx488_0⟩ := Kd.at_int HR1.out x7_2 p488 q488
      have hw488_0 := hx488_0
      cases e488
      replace hx488_0 := (HB.out.cell (World.block_lt_of_cell? w _ hx488_0)).trans hx488_0
      replace p488 := eq_true p488
      replace q488 := eq_true q488
      have p489 : 0 ≤ ((rd l1 x7_2) : Int) := of_decide_eq_true mc341
      have q489 : (rd l1 x7_2) < (l0_2.length : Int) := of_decide_eq_true mc341
      obtain ⟨ad489, e489, hx489_0⟩ := Kd.at_int HR0_2.out (rd l1 x7_2) p489 q489
      have hw489_0 := hx489_0
      cases e489
      replace hx489_0 := (HB.out.cell (World.block_lt_of_cell? w _ hx489_0)).trans hx489_0
      replace p489 := eq_true p489
      replace q489 := eq_true q489
      refine start_ (n := 9) (S := fun w' => w'.cell? ⟨gb485, 0, none⟩ = some (.int .i64 a0_0) ∧ w'.cell? ⟨gb485, 1, none⟩ = some (.int .i64 a0_1) ∧ w'.cell? ⟨gb485, 2, none⟩ = some (.slice (some ad489) l0_2.length c0_2) ∧ w'.cell? (ad488.add (x7_2).toNat) = some (.int .i64 (rd l1 x7_2)) ∧ w'.cell? (ad489.add ((rd l1 x7_2)).toNat) = some (.int .i64 (rd l0_2 (rd l1 x7_2)))) (ds := []) #[false, false, false, false, false, false, false, false, false] kr_ rfl rfl ⟨bc_ BK485 0 rfl, bc_ BK485 1 rfl, bc_ BK485 2 rfl, ((HB.out.cell (World.block_lt_of_cell? w _ hw488_0)).trans hw488_0), ((HB.out.cell (World.block_lt_of_cell? w _ hw489_0)).trans hw489_0)⟩ (fun hHeld => ?_); refine with_tabW spec_SpreadMean.tab7 spec_SpreadMean.bits7 (fun HT_ HW_ => ?_)
      generalize wr.drew = w25 at BK485 BK486 HB hx488_0 hx489_0 hHeld ⊢
      refine pure_ (i := 0) (N := some 28) #[true, false, false, false, false, false, false, false, false] rfl rfl (any_of HT_.out kr_) (fun _ _ _ h => h) (Or.inl ⟨by rfl, mc354⟩) mc312 ?_
      refine pure_ (i := 2) (N := some 30) #[true, false, true, false, false, false, false, false, false] rfl rfl (any_of HT_.out kr_) (fun _ _ _ h => h) (Or.inl ⟨by rfl, mc354⟩) mc312 ?_
      refine pure_ (i := 3) (N := some 31) #[true, false, true, true, false, false, false, false, false] rfl rfl (any_of HT_.out kr_) (fun _ _ _ h => h) (Or.inl ⟨by rfl, mc354⟩) mc312 ?_
      refine pure_ (i := 4) (N := some 32) #[true, false, true, true, true, false, false, false, false] rfl rfl (any_of HT_.out kr_) (fun _ _ _ h => h) (Or.inl ⟨by rfl, mc354⟩) mc312 ?_
      refine take_ (i := 1) (N := some 29) #[true, true, true, true, true, false, false, false, false] rfl rfl (take_ofW HT_.out HW_.out kr_) (fun _ _ _ h => h) (Or.inl ⟨by rfl, mc337⟩) hHeld mc312 ?_
      refine take_ (i := 5) (N := some 33) #[true, true, true, true, true, true, false, false, false] rfl rfl (take_ofW HT_.out HW_.out kr_) (fun _ _ _ h => h) (Or.inl ⟨by rfl, mc337⟩) hHeld mc312 ?_
      refine pure_ (i := 6) (N := some 34) #[true, true, true, true, true, true, true, false, false] rfl rfl (any_of HT_.out kr_) (fun _ _ _ h => h) (Or.inl ⟨by rfl, mc354⟩) mc312 ?_
      refine take_ (i := 7) (N := some 35) #[true, true, true, true, true, true, true, true, false] rfl rfl (take_ofW HT_.out HW_.out kr_) (fun _ _ _ h => h) (Or.inl ⟨by rfl, mc337⟩) hHeld mc312 ?_
      refine pure_ (i := 8) (N := some 36) #[true, true, true, true, true, true, true, true, true] rfl rfl (any_of HT_.out kr_) (fun _ _ _ h => h) (Or.inl ⟨by rfl, mc354⟩) mc312 ?_
      refine done_ (done_of HT_.out kr_) ?_
      try go_wp2
      replace BK485 := A_ (blk_drew BK485.out)
      replace BK486 := A_ (blk_drew BK486.out)
      replace HB := A_ (below_drew1 HB.out)
      have p490 : 0 ≤ (x7_2 : Int) := of_decide_eq_true mc341
      have q490 : x7_2 < (l1.length : Int) := of_decide_eq_true mc341
      obtain ⟨ad490, e490, hx490_0⟩ := Kd.at_int HR1.out x7_2 p490 q490
      have hw490_0 := hx490_0
      obtain rfl : ad488 = ad490 := (by injection e490)
      replace hx490_0 := (HB.out.cell (World.block_lt_of_cell? w _ hx490_0)).trans hx490_0
      replace p490 := eq_true p490
      replace q490 := eq_true q490
      have p491 : 0 ≤ ((rd l1 x7_2) : Int) := of_decide_eq_true mc341
      have q491 : (rd l1 x7_2) < (l0_2.length : Int) := of_decide_eq_true mc341
      obtain ⟨ad491, e491, hx491_0⟩ := Kd.at_int HR0_2.out (rd l1 x7_2) p491 q491
      have hw491_0 := hx491_0
      obtain rfl : ad489 = ad491 := (by injection e491)
      replace hx491_0 := (HB.out.cell (World.block_lt_of_cell? w _ hx491_0)).trans hx491_0
      replace p491 := eq_true p491
      replace q491 := eq_true q491
      refine start_ (n := 11) (S := fun w' => w'.cell? ⟨gb485, 0, none⟩ = some (.int .i64 a0_0) ∧ w'.cell? ⟨gb485, 1, none⟩ = some (.int .i64 a0_1) ∧ w'.cell? ⟨gb485, 2, none⟩ = some (.slice (some ad489) l0_2.length c0_2) ∧ w'.cell? (ad488.add (x7_2).toNat) = some (.int .i64 (rd l1 x7_2)) ∧ w'.cell? (ad489.add ((rd l1 x7_2)).toNat) = some (.int .i64 (rd l0_2 (rd l1 x7_2)))) (ds := []) #[false, false, false, false, false, false, false, false, false, false, false] kr_ rfl rfl ⟨bc_ BK485 0 rfl, bc_ BK485 1 rfl, bc_ BK485 2 rfl, ((HB.out.cell (World.block_lt_of_cell? w _ hw490_0)).trans hw490_0), ((HB.out.cell (World.block_lt_of_cell? w _ hw491_0)).trans hw491_0)⟩ (fun hHeld => ?_); refine with_tabW spec_SpreadMean.tab9 spec_SpreadMean.bits9 (fun HT_ HW_ => ?_)
      generalize w25.drew = w26 at BK485 BK486 HB hx490_0 hx491_0 hHeld ⊢
      refine pure_ (i := 0) (N := some 38) #[true, false, false, false, false, false, false, false, false, false, false] rfl rfl (any_of HT_.out kr_) (fun _ _ _ h => h) (Or.inl ⟨by rfl, mc354⟩) mc312 ?_
      refine pure_ (i := 1) (N := some 39) #[true, true, false, false, false, false, false, false, false, false, false] rfl rfl (any_of HT_.out kr_) (fun _ _ _ h => h) (Or.inl ⟨by rfl, mc354⟩) mc312 ?_
      refine pure_ (i := 3) (N := some 41) #[true, true, false, true, false, false, false, false, false, false, false] rfl rfl (any_of HT_.out kr_) (fun _ _ _ h => h) (Or.inl ⟨by rfl, mc354⟩) mc312 ?_
      refine pure_ (i := 4) (N := some 42) #[true, true, false, true, true, false, false, false, false, false, false] rfl rfl (any_of HT_.out kr_) (fun _ _ _ h => h) (Or.inl ⟨by rfl, mc354⟩) mc312 ?_
      refine pure_ (i := 5) (N := some 43) #[true, true, false, true, true, true, false, false, false, false, false] rfl rfl (any_of HT_.out kr_) (fun _ _ _ h => h) (Or.inl ⟨by rfl, mc354⟩) mc312 ?_
      refine take_ (i := 2) (N := some 40) #[true, true, true, true, true, true, false, false, false, false, false] rfl rfl (take_ofW HT_.out HW_.out kr_) (fun _ _ _ h => h) (Or.inl ⟨by rfl, mc337⟩) hHeld mc312 ?_
      refine take_ (i := 6) (N := some 44) #[true, true, true, true, true, true, true, false, false, false, false] rfl rfl (take_ofW HT_.out HW_.out kr_) (fun _ _ _ h => h) (Or.inl ⟨by rfl, mc337⟩) hHeld mc312 ?_
      refine pure_ (i := 7) (N := some 45) #[true, true, true, true, true, true, true, true, false, false, false] rfl rfl (any_of HT_.out kr_) (fun _ _ _ h => h) (Or.inl ⟨by rfl, mc354⟩) mc312 ?_
      refine take_ (i := 8) (N := some 46) #[true, true, true, true, true, true, true, true, true, false, false] rfl rfl (take_ofW HT_.out HW_.out kr_) (fun _ _ _ h => h) (Or.inl ⟨by rfl, mc337⟩) hHeld mc312 ?_
      refine pure_ (i := 9) (N := some 47) #[true, true, true, true, true, true, true, true, true, true, false] rfl rfl (any_of HT_.out kr_) (fun _ _ _ h => h) (Or.inl ⟨by rfl, mc354⟩) mc312 ?_
      refine pure_ (i := 10) (N := some 6) #[true, true, true, true, true, true, true, true, true, true, true] rfl rfl (any_of HT_.out kr_) (fun _ _ _ h => h) (Or.inl ⟨by rfl, mc354⟩) mc312 ?_
      refine done_ (done_of HT_.out kr_) ?_
      try go_wp2
      go_roundg k2
      case measure => have := HJ2.out; have := HK2.out; omega
      case rel => exact ⟨(wrap64 (x6_2 + (rd l0_2 (rd l1 x7_2)))), (wrap64 (x7_2 + 1)), (x487000_2), (x487001_2), mc352, mc352, H', ⟨by have := HJ2.out; have := HK2.out; omega⟩, ⟨mc292⟩, ⟨mc293⟩, ⟨mc190⟩⟩
     rw [if_neg c17] at H
     have c17b0 : decide (x7_2 < (l1.length : Int)) = false := decide_eq_false c17
     clear c17
     obtain ⟨⟨t492, t493, t494⟩, A270, H⟩ := oB_ H
     have A27 := A_ A270
     clear A270
     obtain ⟨t498, A280, H⟩ := oB_ H
     have A28 := A_ A280
     clear A280
     have H' := A_ H
     clear H
     have hnb29 := NB485_486.out
     have hnc29 := NB486_485.out
     have hcz30_0 : wr.cell? ⟨gb485, 0, none⟩ = some (.int .i64 a0_0) := bc_ BK485 0 rfl
     have hcz30_1 : wr.cell? ⟨gb485, 1, none⟩ = some (.int .i64 a0_1) := bc_ BK485 1 rfl
     have hcz30_2 : wr.cell? ⟨gb485, 2, none⟩ = some (.slice A0_2 l0_2.length c0_2) := bc_ BK485 2 rfl
     have hfz30_0 := blk_frozen BK485.out 0
     have hfz30_1 := blk_frozen BK485.out 1
     have hfz30_2 := blk_frozen BK485.out 2
     go_wp2_with (first | ((with_reducible refine gc_ 57 rfl ?_); refine goesL_ (some 49) rfl rfl Try.func57 kr_ rfl #[.agg #[.int .i64 a0_0, .int .i64 a0_1, .slice A0_2 l0_2.length c0_2]] rfl mc247 ?_; (with_reducible refine (spec_l2Own.calls a0_0 a0_1 _ _ l0_2 t492 t493 t494 _ ?side1 ?side2 A27.out).mono ?_); (case side1 => exact mc200); (case side2 => exact HC0_2.out); rintro e w31 ⟨v495, rfl, ho0, hb⟩; refine ⟨_, rfl, ?_⟩; have HO496 := A_ (Kd.R_lower ho0 (below_size mc190)); replace BK485 := A_ (blk_below mc292 hb); replace BK486 := A_ (blk_below mc293 hb); replace HB := A_ (below_step mc190 hb); (try clear hb); (try clear ho0)) | ((with_reducible refine gd_ 8 rfl ?_); (try (refine gate_guard (by rfl) ?_; dsimp only)); refine box_event rfl (N := 8) rfl (cs := #[.int .i64 0, .int .i64 0, .slice none 0 0]) (t := 26) mc353 ?_; intro gb497 hg w32 hbox hb; replace HO496 := A_ (Kd.R_below (by (with_reducible repeat (first | apply Kd.R_alloc | apply Kd.R_drewN | apply Kd.R_drew)); exact HO496.out) hb); have BK497 := A_ (hbox); have GW497 := A_ ((mc129 : w.heap.size ≤ gb497)); have GE497 := A_ ((mc129 : w.heap.size ≤ gb497)); replace HB := A_ (below_step mc190 hb); have NB485_497 := A_ ((by rw [hg]; exact Nat.ne_of_lt (blk_lt mc292) : gb485 ≠ gb497)); have NB497_485 := A_ ((by rw [hg]; exact Nat.ne_of_gt (blk_lt mc292) : gb497 ≠ gb485)); replace BK485 := A_ (blk_below mc292 hb); have NB486_497 := A_ ((by rw [hg]; exact Nat.ne_of_lt (blk_lt mc293) : gb486 ≠ gb497)); have NB497_486 := A_ ((by rw [hg]; exact Nat.ne_of_gt (blk_lt mc293) : gb497 ≠ gb486)); replace BK486 := A_ (blk_below mc293 hb); clear hb hbox hg; have hnb33 := NB497_485.out; have hnc33 := NB485_497.out; have hnb34 := NB497_486.out; have hnc34 := NB486_497.out; have hcz35_0 : w32.cell? ⟨gb497, 0, none⟩ = some (.int .i64 0) := bc_ BK497 0 rfl; have hcz35_1 : w32.cell? ⟨gb497, 1, none⟩ = some (.int .i64 0) := bc_ BK497 1 rfl; have hcz35_2 : w32.cell? ⟨gb497, 2, none⟩ = some (.slice none 0 0) := bc_ BK497 2 rfl; have hfz35_0 := blk_frozen BK497.out 0; have hfz35_1 := blk_frozen BK497.out 1; have hfz35_2 := blk_frozen BK497.out 2; obtain ⟨Ao36, co36, eo36⟩ := Kd.R_slice HO496.out; subst eo36) | ((with_reducible refine gc_ 71 rfl ?_); refine goesL_ (some 53) rfl rfl Try.func71 kr_ rfl #[.int .i64 x6_2, .int .i64 (l1.length : Int)] rfl mc247 ?_; (with_reducible refine (spec_l4Floor.calls x6_2 (l1.length : Int) t498 _ A28.out).mono ?_); rintro e w' ⟨rfl, ⟨nd, rfl⟩⟩; refine ⟨_, rfl, ?_⟩))
     go_loopg [11] k2 (fun kq v11 w' => ∃ (x11_3 : Int) (x498002_3 : List Int) (u498002 : Value), v11 = .int .i64 x11_3 ∧ Aside0 (spec_SpreadMean.l1 kq l1 t498 (wrap64 (x6_2 - (wrap64 (t498 * (l1.length : Int))))) x11_3 t492 t493 x498002_3 = some (r1, r2, r3, r4)) ∧ Aside0 (kq ≤ k2) ∧ Aside0 (Kd.R (Kd.int .i64) 3 w' w.heap.size (fun _ => True) u498002 x498002_3) ∧ Aside0 (w'.heap[gb485]? = some (.cells #[.int .i64 a0_0, .int .i64 a0_1, (.slice A0_2 l0_2.length c0_2)] 26 (0, 0))) ∧ Aside0 (w'.heap[gb486]? = some (.cells #[.int .i64 x487000_2, .int .i64 x487001_2, (.slice none 0 0)] 26 (0, 0))) ∧ Aside0 (w'.heap[gb497]? = some (.cells #[.int .i64 t492, .int .i64 t493, u498002] 26 (0, 0))) ∧ Aside0 (Below w.heap.size w w'))
     case atStart => exact ⟨(0), (t494), (.slice Ao36 t494.length co36), mc352, H', ⟨Nat.le_refl _⟩, ⟨by (with_reducible repeat (first | apply Kd.R_alloc | apply Kd.R_drewN | apply Kd.R_drew)); exact Kd.R_mono (Kd.R_far (p := ⟨gb497, 2, none⟩) (Kd.R_far (p := ⟨gb497, 1, none⟩) (Kd.R_far (p := ⟨gb497, 0, none⟩) (Kd.R_types HO496.out BK497.out (by decide)) (fun _ hk => hk.2) (.int .i64 t492)) (fun _ hk => hk.2) (.int .i64 t493)) (fun _ hk => hk.2) (.slice Ao36 t494.length co36)) (fun _ hk => trivial)⟩, ⟨by (with_reducible repeat (first | refine blk_drewN ?_ _ | refine blk_drew ?_ | refine blk_alloc ?_ _)); refine blk_far ?_ NB485_497.out _; (with_reducible repeat (first | refine blk_drewN ?_ _ | refine blk_drew ?_ | refine blk_alloc ?_ _)); refine blk_far ?_ NB485_497.out _; (with_reducible repeat (first | refine blk_drewN ?_ _ | refine blk_drew ?_ | refine blk_alloc ?_ _)); refine blk_far ?_ NB485_497.out _; (with_reducible repeat (first | refine blk_drewN ?_ _ | refine blk_drew ?_ | refine blk_alloc ?_ _)); exact BK485.out⟩, ⟨by (with_reducible repeat (first | refine blk_drewN ?_ _ | refine blk_drew ?_ | refine blk_alloc ?_ _)); refine blk_far ?_ NB486_497.out _; (with_reducible repeat (first | refine blk_drewN ?_ _ | refine blk_drew ?_ | refine blk_alloc ?_ _)); refine blk_far ?_ NB486_497.out _; (with_reducible repeat (first | refine blk_drewN ?_ _ | refine blk_drew ?_ | refine blk_alloc ?_ _)); refine blk_far ?_ NB486_497.out _; (with_reducible repeat (first | refine blk_drewN ?_ _ | refine blk_drew ?_ | refine blk_alloc ?_ _)); exact BK486.out⟩, ⟨by (with_reducible repeat (first | refine blk_drewN ?_ _ | refine blk_drew ?_ | refine blk_alloc ?_ _)); refine blk_put (cs := #[.int .i64 t492, .int .i64 t493, .slice none 0 0]) ?_ 2 _ rfl; (with_reducible repeat (first | refine blk_drewN ?_ _ | refine blk_drew ?_ | refine blk_alloc ?_ _)); refine blk_put (cs := #[.int .i64 t492, .int .i64 0, .slice none 0 0]) ?_ 1 _ rfl; (with_reducible repeat (first | refine blk_drewN ?_ _ | refine blk_drew ?_ | refine blk_alloc ?_ _)); refine blk_put (cs := #[.int .i64 0, .int .i64 0, .slice none 0 0]) ?_ 0 _ rfl; (with_reducible repeat (first | refine blk_drewN ?_ _ | refine blk_drew ?_ | refine blk_alloc ?_ _)); exact BK497.out⟩, ⟨mc138⟩⟩
     case round =>
      clear H'
      try clear p2
      try clear p4
      try clear q4
      try clear hx4
      try clear p6
      try clear c17b0
      try clear c18b0
      try clear c19b0
      try clear c20b0
      try clear c21b0
      try clear c21b1
      try clear hx488_0
      try clear hx489_0
      try clear hx490_0
      try clear hx491_0
      try clear p2
      try clear p488
      try clear p489
      try clear p490
      try clear p491
      try clear q488
      try clear q489
      try clear q490
      try clear q491
      obtain ⟨x11_3, x498002_3, u498002, rfl, HA, HK3, HO_498002, BK485, BK486, BK497, HB⟩ := hrel
      cases gk with
      | zero => exact absurd HA.out (by simp [spec_SpreadMean.l1])
      | succ k3 =>
       have H := HA.out
       clear HA
       simp only [spec_SpreadMean.l1] at H
       by_cases c37 : x11_3 < (l1.length : Int)
       rotate_left
       ·
        rw [if_neg c37] at H
        have c37b0 : decide (x11_3 < (l1.length : Int)) = false := decide_eq_false c37
        clear c37
        simp only [Option.some.injEq, Prod.mk.injEq] at H
        obtain ⟨rfl, rfl, rfl, rfl⟩ := H
        have hnb51 := NB497_485.out
        have hnc51 := NB485_497.out
        have hnb52 := NB497_486.out
        have hnc52 := NB486_497.out
        have hcz53_0 : wr.cell? ⟨gb497, 0, none⟩ = some (.int .i64 t492) := bc_ BK497 0 rfl
        have hcz53_1 : wr.cell? ⟨gb497, 1, none⟩ = some (.int .i64 t493) := bc_ BK497 1 rfl
        have hcz53_2 : wr.cell? ⟨gb497, 2, none⟩ = some (u498002) := bc_ BK497 2 rfl
        have hfz53_0 := blk_frozen BK497.out 0
        have hfz53_1 := blk_frozen BK497.out 1
        have hfz53_2 := blk_frozen BK497.out 2
        have hnb54 := NB486_485.out
        have hnc54 := NB485_486.out
        have hcz55_0 : wr.cell? ⟨gb486, 0, none⟩ = some (.int .i64 x487000_2) := bc_ BK486 0 rfl
        have hcz55_1 : wr.cell? ⟨gb486, 1, none⟩ = some (.int .i64 x487001_2) := bc_ BK486 1 rfl
        have hcz55_2 : wr.cell? ⟨gb486, 2, none⟩ = some (.slice none 0 0) := bc_ BK486 2 rfl
        have hfz55_0 := blk_frozen BK486.out 0
        have hfz55_1 := blk_frozen BK486.out 1
        have hfz55_2 := blk_frozen BK486.out 2
        obtain ⟨Ao56, co56, eo56⟩ := Kd.R_slice HO_498002.out
        subst eo56
        go_wp2
        refine bodyPost_ret (results_ct rfl _ _ gb486 26 #[.int .i64 t492, .int .i64 t493, .slice Ao56 x498002_3.length co56] (0, 0) _ rfl (by (with_reducible repeat (first | refine blk_drewN ?_ _ | refine blk_drew ?_ | refine blk_alloc ?_ _)); refine blk_put (cs := #[.int .i64 t492, .int .i64 t493, .slice none 0 0]) ?_ 2 _ rfl; (with_reducible repeat (first | refine blk_drewN ?_ _ | refine blk_drew ?_ | refine blk_alloc ?_ _)); refine blk_put (cs := #[.int .i64 t492, .int .i64 x487001_2, .slice none 0 0]) ?_ 1 _ rfl; (with_reducible repeat (first | refine blk_drewN ?_ _ | refine blk_drew ?_ | refine blk_alloc ?_ _)); refine blk_put (cs := #[.int .i64 x487000_2, .int .i64 x487001_2, .slice none 0 0]) ?_ 0 _ rfl; (with_reducible repeat (first | refine blk_drewN ?_ _ | refine blk_drew ?_ | refine blk_alloc ?_ _)); exact BK486.out) Try.underlying26 rfl kr_) rfl ?_
        exact ⟨_, mc332, by (with_reducible repeat (first | apply Kd.R_alloc | apply Kd.R_drewN | apply Kd.R_drew)); exact Kd.R_mono (Kd.R_far (p := ⟨gb486, 2, none⟩) (Kd.R_far (p := ⟨gb486, 1, none⟩) (Kd.R_far (p := ⟨gb486, 0, none⟩) (Kd.R_types HO_498002.out BK486.out (by decide)) (fun _ hk => hk.2) (.int .i64 t492)) (fun _ hk => hk.2) (.int .i64 t493)) (fun _ hk => hk.2) (.slice Ao56 x498002_3.length co56)) (fun _ hk => trivial), mc138⟩
       rw [if_pos c37] at H
       have c37b0 : decide (x11_3 < (l1.length : Int)) = true := decide_eq_true c37
       clear c37
       by_cases c38 : 0 ≤ x11_3
       rotate_left
       ·
        rw [if_neg c38] at H
        exact absurd H (by simp)
       rw [if_pos c38] at H
       have c38b0 : decide (0 ≤ x11_3) = true := decide_eq_true c38
       clear c38
       by_cases c39 : 0 ≤ (rd l1 x11_3)
       rotate_left
       ·
        rw [if_neg c39] at H
        exact absurd H (by simp)
       rw [if_pos c39] at H
       have c39b0 : decide (0 ≤ (rd l1 x11_3)) = true := decide_eq_true c39
       clear c39
       by_cases c40 : (rd l1 x11_3) < (x498002_3.length : Int)
       rotate_left
       ·
        rw [if_neg c40] at H
        exact absurd H (by simp)
       rw [if_pos c40] at H
       have c40b0 : decide ((rd l1 x11_3) < (x498002_3.length : Int)) = true := decide_eq_true c40
       clear c40
       obtain ⟨y500, hy500⟩ : ∃ y_ : List Int, y_ = (x498002_3.set ((rd l1 x11_3) : Int).toNat t498) := ⟨_, rfl⟩
       replace H : (if x11_3 < (wrap64 (x6_2 - (wrap64 (t498 * (l1.length : Int))))) then (spec_SpreadMean.l1 k3 l1 t498 (wrap64 (x6_2 - (wrap64 (t498 * (l1.length : Int))))) (wrap64 (x11_3 + 1)) t492 t493 (y500.set ((rd l1 x11_3) : Int).toNat (wrap64 (t498 + 1)))) else (spec_SpreadMean.l1 k3 l1 t498 (wrap64 (x6_2 - (wrap64 (t498 * (l1.length : Int))))) (wrap64 (x11_3 + 1)) t492 t493 y500)) = some (r1, r2, r3, r4) := by first | (rw [hy500]; with_reducible exact H) | (have H2_ := (Option.bind_some _ _).symm.trans H; rw [hy500]; with_reducible exact H2_) | (have H2_ := (Option.bind_some _ _).symm.trans H; with_reducible exact H2_) | with_reducible exact H | (rw [hy500]; exact H) | exact H
       have Ny500 := A_ hy500
       clear hy500
       by_cases c42 : x11_3 < (wrap64 (x6_2 - (wrap64 (t498 * (l1.length : Int)))))
       rotate_left
       ·
        rw [if_neg c42] at H
        have c42b0 : decide (x11_3 < (wrap64 (x6_2 - (wrap64 (t498 * (l1.length : Int)))))) = false := decide_eq_false c42
        clear c42
        have H' := A_ H
        clear H
        try go_wp2
        replace HO_498002 := A_ (Kd.R_drew HO_498002.out)
        replace BK485 := A_ (blk_drew BK485.out)
        replace BK486 := A_ (blk_drew BK486.out)
        replace BK497 := A_ (blk_drew BK497.out)
        replace HB := A_ (below_drew1 HB.out)
        have p499 : 0 ≤ (x11_3 : Int) := of_decide_eq_true mc341
        have q499 : x11_3 < (l1.length : Int) := of_decide_eq_true mc341
        obtain ⟨ad499, e499, hx499_0⟩ := Kd.at_int HR1.out x11_3 p499 q499
        have hw499_0 := hx499_0
        cases e499
        replace hx499_0 := (HB.out.cell (World.block_lt_of_cell? w _ hx499_0)).trans hx499_0
        replace p499 := eq_true p499
        replace q499 := eq_true q499
        have p41 : 0 ≤ ((rd l1 x11_3) : Int) := of_decide_eq_true mc341
        have q41 : ((rd l1 x11_3) : Int) < ((x498002_3.length : Int) : Int) := of_decide_eq_true mc341
        obtain ⟨go41, co41, eo41, gb41, gl41, cl41, HG41⟩ := Kd.R_form HO_498002.out (by omega)
        (first | cases eo41 | (injection eo41 with ea_ en_ ec_; (first | subst ea_ | (injection ea_ with ea_; subst ea_)); subst ec_; clear en_))
        have GB41 := A_ gb41
        have GG41 := A_ HG41
        clear gb41 gl41 HG41
        obtain ⟨hx41_0, hf41_0⟩ := Kd.R_celln 0 HO_498002.out ((rd l1 x11_3) : Int) p41 q41
        replace p41 := eq_true p41
        replace q41 := eq_true q41
        have HP50 := Kd.R_putn HO_498002.out ((rd l1 x11_3) : Int) t498
        rw [← Ny500.out] at HP50
        have HQ50 := A_ HP50
        clear HP50
        refine start_ (n := 9) (S := fun w' => w'.cell? ⟨gb497, 0, none⟩ = some (.int .i64 t492) ∧ w'.cell? ⟨gb497, 1, none⟩ = some (.int .i64 t493) ∧ w'.cell? ⟨gb497, 2, none⟩ = some (.slice (some ⟨go41, 0, none⟩) x498002_3.length co41) ∧ w'.cell? (ad499.add (x11_3).toNat) = some (.int .i64 (rd l1 x11_3))) (ds := [8]) #[false, false, false, false, false, false, false, false, false] kr_ rfl rfl ⟨bc_ BK497 0 rfl, bc_ BK497 1 rfl, bc_ BK497 2 rfl, ((HB.out.cell (World.block_lt_of_cell? w _ hw499_0)).trans hw499_0)⟩ (fun hHeld => ?_); refine with_tabW spec_SpreadMean.tab16 spec_SpreadMean.bits16 (fun HT_ HW_ => ?_)
        generalize wr.drew = w49 at HO_498002 BK485 BK486 BK497 HB GG41 HQ50 hf41_0 hx41_0 hx499_0 hHeld ⊢
        refine pure_ (i := 0) (N := some 66) #[true, false, false, false, false, false, false, false, false] rfl rfl (any_of HT_.out kr_) (fun _ _ _ h => h) (Or.inl ⟨by rfl, mc354⟩) mc312 ?_
        refine pure_ (i := 2) (N := some 68) #[true, false, true, false, false, false, false, false, false] rfl rfl (any_of HT_.out kr_) (fun _ _ _ h => h) (Or.inl ⟨by rfl, mc354⟩) mc312 ?_
        refine pure_ (i := 3) (N := some 69) #[true, false, true, true, false, false, false, false, false] rfl rfl (any_of HT_.out kr_) (fun _ _ _ h => h) (Or.inl ⟨by rfl, mc354⟩) mc312 ?_
        refine pure_ (i := 4) (N := some 70) #[true, false, true, true, true, false, false, false, false] rfl rfl (any_of HT_.out kr_) (fun _ _ _ h => h) (Or.inl ⟨by rfl, mc354⟩) mc312 ?_
        refine pure_ (i := 6) (N := some 72) #[true, false, true, true, true, false, true, false, false] rfl rfl (any_of HT_.out kr_) (fun _ _ _ h => h) (Or.inl ⟨by rfl, mc354⟩) mc312 ?_
        refine take_ (i := 1) (N := some 67) #[true, true, true, true, true, false, true, false, false] rfl rfl (take_ofW HT_.out HW_.out kr_) (fun _ _ _ h => h) (Or.inl ⟨by rfl, mc339⟩) hHeld mc312 ?_
        refine take_ (i := 5) (N := some 71) #[true, true, true, true, true, true, true, false, false] rfl rfl (take_ofW HT_.out HW_.out kr_) (fun _ _ _ h => h) (Or.inl ⟨by rfl, mc339⟩) hHeld mc312 ?_
        refine pure_ (i := 7) (N := some 73) #[true, true, true, true, true, true, true, true, false] rfl rfl (any_of HT_.out kr_) (fun _ _ _ h => h) (Or.inl ⟨by rfl, mc354⟩) mc312 ?_
        refine last_ (i := 8) (N := none) #[true, true, true, true, true, true, true, true, true] rfl rfl (one_of HT_.out kr_) (by decide) (fun K hK => ?_)
        refine skip_ (w1 := ?_) (by rfl) rfl ?_ ?_
        rotate_left
        ·
         go_simp
         rfl
        refine hK.out _ _ ?_
        clear hK K
        refine done_ (done_of HT_.out kr_) ?_
        try go_wp2
        go_roundg k3
        case measure => have := HJ2.out; have := HK2.out; have := HK3.out; omega
        case rel => exact ⟨(wrap64 (x11_3 + 1)), (y500), (.slice (some ⟨go41, 0, none⟩) x498002_3.length co41), mc352, H', ⟨by have := HJ2.out; have := HK2.out; have := HK3.out; omega⟩, ⟨by (with_reducible repeat (first | apply Kd.R_alloc | apply Kd.R_drewN | apply Kd.R_drew)); exact HQ50.out⟩, ⟨mc67⟩, ⟨mc68⟩, ⟨mc69⟩, ⟨mc91⟩⟩
       rw [if_pos c42] at H
       have c42b0 : decide (x11_3 < (wrap64 (x6_2 - (wrap64 (t498 * (l1.length : Int)))))) = true := decide_eq_true c42
       clear c42
       obtain ⟨y502, hy502⟩ : ∃ y_ : List Int, y_ = (y500.set ((rd l1 x11_3) : Int).toNat (wrap64 (t498 + 1))) := ⟨_, rfl⟩
       replace H : (spec_SpreadMean.l1 k3 l1 t498 (wrap64 (x6_2 - (wrap64 (t498 * (l1.length : Int))))) (wrap64 (x11_3 + 1)) t492 t493 y502) = some (r1, r2, r3, r4) := by first | (rw [hy502]; with_reducible exact H) | (have H2_ := (Option.bind_some _ _).symm.trans H; rw [hy502]; with_reducible exact H2_) | (have H2_ := (Option.bind_some _ _).symm.trans H; with_reducible exact H2_) | with_reducible exact H | (rw [hy502]; exact H) | exact H
       have Ny502 := A_ hy502
       clear hy502
       have H' := A_ H
       clear H
       try go_wp2
       replace HO_498002 := A_ (Kd.R_drew HO_498002.out)
       replace BK485 := A_ (blk_drew BK485.out)
       replace BK486 := A_ (blk_drew BK486.out)
       replace BK497 := A_ (blk_drew BK497.out)
       replace HB := A_ (below_drew1 HB.out)
       have p499 : 0 ≤ (x11_3 : Int) := of_decide_eq_true mc341
       have q499 : x11_3 < (l1.length : Int) := of_decide_eq_true mc341
       obtain ⟨ad499, e499, hx499_0⟩ := Kd.at_int HR1.out x11_3 p499 q499
       have hw499_0 := hx499_0
       cases e499
       replace hx499_0 := (HB.out.cell (World.block_lt_of_cell? w _ hx499_0)).trans hx499_0
       replace p499 := eq_true p499
       replace q499 := eq_true q499
       have p41 : 0 ≤ ((rd l1 x11_3) : Int) := of_decide_eq_true mc341
       have q41 : ((rd l1 x11_3) : Int) < ((x498002_3.length : Int) : Int) := of_decide_eq_true mc341
       obtain ⟨go41, co41, eo41, gb41, gl41, cl41, HG41⟩ := Kd.R_form HO_498002.out (by omega)
       (first | cases eo41 | (injection eo41 with ea_ en_ ec_; (first | subst ea_ | (injection ea_ with ea_; subst ea_)); subst ec_; clear en_))
       have GB41 := A_ gb41
       have GG41 := A_ HG41
       clear gb41 gl41 HG41
       obtain ⟨hx41_0, hf41_0⟩ := Kd.R_celln 0 HO_498002.out ((rd l1 x11_3) : Int) p41 q41
       replace p41 := eq_true p41
       replace q41 := eq_true q41
       have HP45 := Kd.R_putn HO_498002.out ((rd l1 x11_3) : Int) t498
       rw [← Ny500.out] at HP45
       have HQ45 := A_ HP45
       clear HP45
       refine start_ (n := 9) (S := fun w' => w'.cell? ⟨gb497, 0, none⟩ = some (.int .i64 t492) ∧ w'.cell? ⟨gb497, 1, none⟩ = some (.int .i64 t493) ∧ w'.cell? ⟨gb497, 2, none⟩ = some (.slice (some ⟨go41, 0, none⟩) x498002_3.length co41) ∧ w'.cell? (ad499.add (x11_3).toNat) = some (.int .i64 (rd l1 x11_3))) (ds := [8]) #[false, false, false, false, false, false, false, false, false] kr_ rfl rfl ⟨bc_ BK497 0 rfl, bc_ BK497 1 rfl, bc_ BK497 2 rfl, ((HB.out.cell (World.block_lt_of_cell? w _ hw499_0)).trans hw499_0)⟩ (fun hHeld => ?_); refine with_tabW spec_SpreadMean.tab16 spec_SpreadMean.bits16 (fun HT_ HW_ => ?_)
       generalize wr.drew = w44 at HO_498002 BK485 BK486 BK497 HB GG41 HQ45 hf41_0 hx41_0 hx499_0 hHeld ⊢
       refine pure_ (i := 0) (N := some 66) #[true, false, false, false, false, false, false, false, false] rfl rfl (any_of HT_.out kr_) (fun _ _ _ h => h) (Or.inl ⟨by rfl, mc354⟩) mc312 ?_
       refine pure_ (i := 2) (N := some 68) #[true, false, true, false, false, false, false, false, false] rfl rfl (any_of HT_.out kr_) (fun _ _ _ h => h) (Or.inl ⟨by rfl, mc354⟩) mc312 ?_
       refine pure_ (i := 3) (N := some 69) #[true, false, true, true, false, false, false, false, false] rfl rfl (any_of HT_.out kr_) (fun _ _ _ h => h) (Or.inl ⟨by rfl, mc354⟩) mc312 ?_
       refine pure_ (i := 4) (N := some 70) #[true, false, true, true, true, false, false, false, false] rfl rfl (any_of HT_.out kr_) (fun _ _ _ h => h) (Or.inl ⟨by rfl, mc354⟩) mc312 ?_
       refine pure_ (i := 6) (N := some 72) #[true, false, true, true, true, false, true, false, false] rfl rfl (any_of HT_.out kr_) (fun _ _ _ h => h) (Or.inl ⟨by rfl, mc354⟩) mc312 ?_
       refine take_ (i := 1) (N := some 67) #[true, true, true, true, true, false, true, false, false] rfl rfl (take_ofW HT_.out HW_.out kr_) (fun _ _ _ h => h) (Or.inl ⟨by rfl, mc339⟩) hHeld mc312 ?_
       refine take_ (i := 5) (N := some 71) #[true, true, true, true, true, true, true, false, false] rfl rfl (take_ofW HT_.out HW_.out kr_) (fun _ _ _ h => h) (Or.inl ⟨by rfl, mc339⟩) hHeld mc312 ?_
       refine pure_ (i := 7) (N := some 73) #[true, true, true, true, true, true, true, true, false] rfl rfl (any_of HT_.out kr_) (fun _ _ _ h => h) (Or.inl ⟨by rfl, mc354⟩) mc312 ?_
       refine last_ (i := 8) (N := none) #[true, true, true, true, true, true, true, true, true] rfl rfl (one_of HT_.out kr_) (by decide) (fun K hK => ?_)
       refine skip_ (w1 := ?_) (by rfl) rfl ?_ ?_
       rotate_left
       ·
        go_simp
        rfl
       refine hK.out _ _ ?_
       clear hK K
       refine done_ (done_of HT_.out kr_) ?_
       try go_wp2
       have n0_ : Aside0 (Kd.R (Kd.int .i64) 3 (w44.setCell ⟨go41, ((rd l1 x11_3) : Int).toNat, none⟩ (.int .i64 t498)) w.heap.size (fun _ => True) (.slice (some ⟨go41, 0, none⟩) x498002_3.length co41) y500) := ⟨by (with_reducible repeat (first | apply Kd.R_alloc | apply Kd.R_drewN | apply Kd.R_drew)); exact HQ45.out⟩
       have n1_ : Aside0 ((w44.setCell ⟨go41, ((rd l1 x11_3) : Int).toNat, none⟩ (.int .i64 t498)).heap[gb485]? = some (.cells #[.int .i64 a0_0, .int .i64 a0_1, .slice A0_2 l0_2.length c0_2] 26 (0, 0))) := ⟨mc67⟩
       have n2_ : Aside0 ((w44.setCell ⟨go41, ((rd l1 x11_3) : Int).toNat, none⟩ (.int .i64 t498)).heap[gb486]? = some (.cells #[.int .i64 x487000_2, .int .i64 x487001_2, .slice none 0 0] 26 (0, 0))) := ⟨mc68⟩
       have n3_ : Aside0 ((w44.setCell ⟨go41, ((rd l1 x11_3) : Int).toNat, none⟩ (.int .i64 t498)).heap[gb497]? = some (.cells #[.int .i64 t492, .int .i64 t493, .slice (some ⟨go41, 0, none⟩) x498002_3.length co41] 26 (0, 0))) := ⟨mc69⟩
       have n4_ : Aside0 (Below w.heap.size w (w44.setCell ⟨go41, ((rd l1 x11_3) : Int).toNat, none⟩ (.int .i64 t498))) := ⟨mc91⟩
       (try clear HO_498002)
       (try clear BK485)
       (try clear BK486)
       (try clear BK497)
       (try clear HB)
       generalize (w44.setCell ⟨go41, ((rd l1 x11_3) : Int).toNat, none⟩ (.int .i64 t498)) = w46 at n0_ n1_ n2_ n3_ n4_ ⊢
       have HO_498002 := n0_
       have BK485 := n1_
       have BK486 := n2_
       have BK497 := n3_
       have HB := n4_
       clear n0_ n1_ n2_ n3_ n4_
       replace HO_498002 := A_ (Kd.R_drew HO_498002.out)
       replace BK485 := A_ (blk_drew BK485.out)
       replace BK486 := A_ (blk_drew BK486.out)
       replace BK497 := A_ (blk_drew BK497.out)
       replace HB := A_ (below_drew1 HB.out)
       have p501 : 0 ≤ (x11_3 : Int) := of_decide_eq_true mc341
       have q501 : x11_3 < (l1.length : Int) := of_decide_eq_true mc341
       obtain ⟨ad501, e501, hx501_0⟩ := Kd.at_int HR1.out x11_3 p501 q501
       have hw501_0 := hx501_0
       obtain rfl : ad499 = ad501 := (by injection e501)
       replace hx501_0 := (HB.out.cell (World.block_lt_of_cell? w _ hx501_0)).trans hx501_0
       replace p501 := eq_true p501
       replace q501 := eq_true q501
       have p43 : 0 ≤ ((rd l1 x11_3) : Int) := of_decide_eq_true mc341
       have q43 : ((rd l1 x11_3) : Int) < ((x498002_3.length : Int) : Int) := of_decide_eq_true mc341
       obtain ⟨hx43_0, hf43_0⟩ := Kd.R_celln 0 HO_498002.out ((rd l1 x11_3) : Int) p43 q43
       replace p43 := eq_true p43
       replace q43 := eq_true q43
       have HP48 := Kd.R_putn HO_498002.out ((rd l1 x11_3) : Int) (wrap64 (t498 + 1))
       rw [← Ny502.out] at HP48
       have HQ48 := A_ HP48
       clear HP48
       refine start_ (n := 10) (S := fun w' => w'.cell? ⟨gb497, 0, none⟩ = some (.int .i64 t492) ∧ w'.cell? ⟨gb497, 1, none⟩ = some (.int .i64 t493) ∧ w'.cell? ⟨gb497, 2, none⟩ = some (.slice (some ⟨go41, 0, none⟩) x498002_3.length co41) ∧ w'.cell? (ad499.add (x11_3).toNat) = some (.int .i64 (rd l1 x11_3))) (ds := [9]) #[false, false, false, false, false, false, false, false, false, false] kr_ rfl rfl ⟨bc_ BK497 0 rfl, bc_ BK497 1 rfl, bc_ BK497 2 rfl, ((HB.out.cell (World.block_lt_of_cell? w _ hw501_0)).trans hw501_0)⟩ (fun hHeld => ?_); refine with_tabW spec_SpreadMean.tab18 spec_SpreadMean.bits18 (fun HT_ HW_ => ?_)
       generalize w46.drew = w47 at HO_498002 BK485 BK486 BK497 HB HQ45 HQ48 hf43_0 hx43_0 hx501_0 hHeld ⊢
       refine pure_ (i := 0) (N := some 77) #[true, false, false, false, false, false, false, false, false, false] rfl rfl (any_of HT_.out kr_) (fun _ _ _ h => h) (Or.inl ⟨by rfl, mc354⟩) mc312 ?_
       refine pure_ (i := 2) (N := some 79) #[true, false, true, false, false, false, false, false, false, false] rfl rfl (any_of HT_.out kr_) (fun _ _ _ h => h) (Or.inl ⟨by rfl, mc354⟩) mc312 ?_
       refine pure_ (i := 3) (N := some 80) #[true, false, true, true, false, false, false, false, false, false] rfl rfl (any_of HT_.out kr_) (fun _ _ _ h => h) (Or.inl ⟨by rfl, mc354⟩) mc312 ?_
       refine pure_ (i := 4) (N := some 81) #[true, false, true, true, true, false, false, false, false, false] rfl rfl (any_of HT_.out kr_) (fun _ _ _ h => h) (Or.inl ⟨by rfl, mc354⟩) mc312 ?_
       refine pure_ (i := 6) (N := some 83) #[true, false, true, true, true, false, true, false, false, false] rfl rfl (any_of HT_.out kr_) (fun _ _ _ h => h) (Or.inl ⟨by rfl, mc354⟩) mc312 ?_
       refine pure_ (i := 7) (N := some 84) #[true, false, true, true, true, false, true, true, false, false] rfl rfl (any_of HT_.out kr_) (fun _ _ _ h => h) (Or.inl ⟨by rfl, mc354⟩) mc312 ?_
       refine take_ (i := 1) (N := some 78) #[true, true, true, true, true, false, true, true, false, false] rfl rfl (take_ofW HT_.out HW_.out kr_) (fun _ _ _ h => h) (Or.inl ⟨by rfl, mc339⟩) hHeld mc312 ?_
       refine take_ (i := 5) (N := some 82) #[true, true, true, true, true, true, true, true, false, false] rfl rfl (take_ofW HT_.out HW_.out kr_) (fun _ _ _ h => h) (Or.inl ⟨by rfl, mc339⟩) hHeld mc312 ?_
       refine pure_ (i := 8) (N := some 85) #[true, true, true, true, true, true, true, true, true, false] rfl rfl (any_of HT_.out kr_) (fun _ _ _ h => h) (Or.inl ⟨by rfl, mc354⟩) mc312 ?_
       refine last_ (i := 9) (N := none) #[true, true, true, true, true, true, true, true, true, true] rfl rfl (one_of HT_.out kr_) (by decide) (fun K hK => ?_)
       refine skip_ (w1 := ?_) (by rfl) rfl ?_ ?_
       rotate_left
       ·
        go_simp
        rfl
       refine hK.out _ _ ?_
       clear hK K
       refine done_ (done_of HT_.out kr_) ?_
       try go_wp2
       go_roundg k3
       case measure => have := HJ2.out; have := HK2.out; have := HK3.out; omega
       case rel => exact ⟨(wrap64 (x11_3 + 1)), (y502), (.slice (some ⟨go41, 0, none⟩) x498002_3.length co41), mc352, H', ⟨by have := HJ2.out; have := HK2.out; have := HK3.out; omega⟩, ⟨by (with_reducible repeat (first | apply Kd.R_alloc | apply Kd.R_drewN | apply Kd.R_drew)); exact HQ48.out⟩, ⟨mc67⟩, ⟨mc68⟩, ⟨mc69⟩, ⟨mc91⟩⟩

end Go.Proofs.Ytdmkbfjipgaloaa.P
