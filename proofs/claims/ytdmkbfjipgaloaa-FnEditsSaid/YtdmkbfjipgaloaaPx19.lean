-- Made by pp.py of this session out of the kit's print and of contracts proved by hand; Lean checks it.
import Derived.Test.YtdmkbfjipgaloaaMc
import Derived.Test.YtdmkbfjipgaloaaPx0
namespace Go.Proofs.Ytdmkbfjipgaloaa.P
open Go.RowKit Go.Proofs.YtdmkbfjipgaloaaW.PrintWords Go.Proofs.YtdmkbfjipgaloaaW.PrintLast Go.Proofs.YtdmkbfjipgaloaaW.PrintMore
attribute [local go_sem] max2_int min2_int max_two min_two max_three min_three max_four min_four   -- for this text's walks alone
set_option linter.unusedVariables false
set_option linter.unusedSimpArgs false

/-! ### laws_vInts: function 52 -/
def laws_vInts.l0 : Nat → List Int → List Int → Int → Option (Bool)
 | 0, _, _, _ => none
 | k + 1, x0, x1, x5 => if x5 < (x0.length : Int) then (if 0 ≤ x5 then (if x5 < (x1.length : Int) then (if (rd x0 x5) = (rd x1 x5) then (laws_vInts.l0 k x0 x1 (wrap64 (x5 + 1))) else (some false)) else (none)) else (none)) else (some true)
def laws_vInts.f (k : Nat) (l0 : List Int) (l1 : List Int) : Option (Bool) := if (l0.length : Int) = (l1.length : Int) then (laws_vInts.l0 k l0 l1 0) else (some false)
set_option maxHeartbeats 8000000 in
set_option maxRecDepth 100000 in
theorem laws_vInts.calls (k : Nat) (A0 : Option Addr) (c0 : Nat) (l0 : List Int) (A1 : Option Addr) (c1 : Nat) (l1 : List Int) (r : Bool) (w : World) (hr0 : Kd.C (Kd.int .i64) w A0 l0.length l0) (hc0 : l0.length ≤ c0) (hr1 : Kd.C (Kd.int .i64) w A1 l1.length l1) (hc1 : l1.length ≤ c1) (h : laws_vInts.f k l0 l1 = some r) :
  Calls Try.prog 52 #[.slice A0 l0.length c0, .slice A1 l1.length c1] w fun e w' => e = .returned (.bool r) ∧ Drawn0 w w' := by
 have HR0 := A_ hr0
 have HC0 := A_ hc0
 clear hr0 hc0
 have HR1 := A_ hr1
 have HC1 := A_ hc1
 clear hr1 hc1
 have H : (if (l0.length : Int) = (l1.length : Int) then (laws_vInts.l0 k l0 l1 0) else (some false)) = some r := h
 clear h
 by_cases c3 : (l0.length : Int) = (l1.length : Int)
 rotate_left
 ·
  rw [if_neg c3] at H
  have c3b0 : ((l0.length : Int) == (l1.length : Int)) = false := beq_eq_false_iff_ne.mpr c3
  have c3b1 : ((l0.length : Int) != (l1.length : Int)) = true := bne_iff_ne.mpr c3
  have c3b2 : (l0.length == l1.length) = false := by first | simpa using c3 | (simp at c3 ⊢; omega)
  obtain rfl := Option.some.inj H
  go_enter Try.func52, Try.ntmps52
  go_wp2
  repeat (go_quiet (fail); try go_wp2)
  go_ret
  exact ⟨mc352, mc338⟩
 rw [if_pos c3] at H
 have c3b0 : ((l0.length : Int) == (l1.length : Int)) = true := beq_iff_eq.mpr c3
 have c3b1 : ((l0.length : Int) != (l1.length : Int)) = false := bne_eq_false_iff_eq.mpr c3
 have c3b2 : (l0.length == l1.length) = true := by first | simpa using c3 | (simp at c3 ⊢; omega)
 clear c3
 have H' := A_ H
 clear H
 go_enter Try.func52, Try.ntmps52
 go_wp2
 repeat (go_quiet (fail); try go_wp2)
 go_loopg [5] k (fun kq v5 w' => ∃ (x5_1 : Int), v5 = .int .i64 x5_1 ∧ Aside0 (laws_vInts.l0 kq l0 l1 x5_1 = some r) ∧ Aside0 (kq ≤ k) ∧ Drawn0 w w')
 case atStart => exact ⟨(0), mc352, H', ⟨Nat.le_refl _⟩, mc338⟩
 case round =>
  clear H'
  try clear p2
  try clear c3b0
  try clear c3b1
  try clear c3b2
  obtain ⟨x5_1, rfl, HA, HK1, ⟨m1, rfl⟩⟩ := hrel
  cases gk with
  | zero => exact absurd HA.out (by simp [laws_vInts.l0])
  | succ k1 =>
   have H := HA.out
   clear HA
   simp only [laws_vInts.l0] at H
   by_cases c4 : x5_1 < (l0.length : Int)
   rotate_left
   ·
    rw [if_neg c4] at H
    have c4b0 : decide (x5_1 < (l0.length : Int)) = false := decide_eq_false c4
    clear c4
    obtain rfl := Option.some.inj H
    go_wp2
    repeat (go_quiet (fail); try go_wp2)
    go_ret
    exact ⟨mc352, mc338⟩
   rw [if_pos c4] at H
   have c4b0 : decide (x5_1 < (l0.length : Int)) = true := decide_eq_true c4
   clear c4
   by_cases c5 : 0 ≤ x5_1
   rotate_left
   ·
    rw [if_neg c5] at H
    exact absurd H (by simp)
   rw [if_pos c5] at H
   have c5b0 : decide (0 ≤ x5_1) = true := decide_eq_true c5
   clear c5
   by_cases c6 : x5_1 < (l1.length : Int)
   rotate_left
   ·
    rw [if_neg c6] at H
    exact absurd H (by simp)
   rw [if_pos c6] at H
   have c6b0 : decide (x5_1 < (l1.length : Int)) = true := decide_eq_true c6
   clear c6
   by_cases c7 : (rd l0 x5_1) = (rd l1 x5_1)
   rotate_left
   ·
    rw [if_neg c7] at H
    have c7b0 : ((rd l0 x5_1) == (rd l1 x5_1)) = false := beq_eq_false_iff_ne.mpr c7
    have c7b1 : ((rd l0 x5_1) != (rd l1 x5_1)) = true := bne_iff_ne.mpr c7
    obtain rfl := Option.some.inj H
    have p397 : 0 ≤ (x5_1 : Int) := of_decide_eq_true mc341
    have q397 : x5_1 < (l0.length : Int) := of_decide_eq_true mc341
    obtain ⟨ad397, e397, hx397_0⟩ := Kd.at_int HR0.out x5_1 p397 q397
    cases e397
    replace p397 := eq_true p397
    replace q397 := eq_true q397
    have p398 : 0 ≤ (x5_1 : Int) := of_decide_eq_true mc341
    have q398 : x5_1 < (l1.length : Int) := of_decide_eq_true mc341
    obtain ⟨ad398, e398, hx398_0⟩ := Kd.at_int HR1.out x5_1 p398 q398
    cases e398
    replace p398 := eq_true p398
    replace q398 := eq_true q398
    go_wp2
    repeat (go_quiet (fail); try go_wp2)
    go_ret
    exact ⟨mc352, mc338⟩
   rw [if_pos c7] at H
   have c7b0 : ((rd l0 x5_1) == (rd l1 x5_1)) = true := beq_iff_eq.mpr c7
   have c7b1 : ((rd l0 x5_1) != (rd l1 x5_1)) = false := bne_eq_false_iff_eq.mpr c7
   clear c7
   have H' := A_ H
   clear H
   have p397 : 0 ≤ (x5_1 : Int) := of_decide_eq_true mc341
   have q397 : x5_1 < (l0.length : Int) := of_decide_eq_true mc341
   obtain ⟨ad397, e397, hx397_0⟩ := Kd.at_int HR0.out x5_1 p397 q397
   cases e397
   replace p397 := eq_true p397
   replace q397 := eq_true q397
   have p398 : 0 ≤ (x5_1 : Int) := of_decide_eq_true mc341
   have q398 : x5_1 < (l1.length : Int) := of_decide_eq_true mc341
   obtain ⟨ad398, e398, hx398_0⟩ := Kd.at_int HR1.out x5_1 p398 q398
   cases e398
   replace p398 := eq_true p398
   replace q398 := eq_true q398
   go_wp2
   repeat (go_quiet (fail); try go_wp2)
   go_roundg k1
   case measure => have := HK1.out; omega
   case rel => exact ⟨(wrap64 (x5_1 + 1)), mc352, H', ⟨mc356⟩, mc338⟩

/-! ### laws_vField: function 16 -/
def laws_vField.f (k : Nat) (a0_0 : Int) (a0_1 : Int) (l0_2 : List Int) (a1_0 : Int) (a1_1 : Int) (l1_2 : List Int) : Option (Bool) := if a0_0 = a1_0 then (if a0_1 = a1_1 then ((laws_vInts.f k l0_2 l1_2).bind fun t401 => (some t401)) else (some false)) else (some false)
set_option maxHeartbeats 8000000 in
set_option maxRecDepth 100000 in
theorem laws_vField.calls (k : Nat) (a0_0 : Int) (a0_1 : Int) (A0_2 : Option Addr) (c0_2 : Nat) (l0_2 : List Int) (a1_0 : Int) (a1_1 : Int) (A1_2 : Option Addr) (c1_2 : Nat) (l1_2 : List Int) (r : Bool) (w : World) (hr0_2 : Kd.C (Kd.int .i64) w A0_2 l0_2.length l0_2) (hc0_2 : l0_2.length ≤ c0_2) (hr1_2 : Kd.C (Kd.int .i64) w A1_2 l1_2.length l1_2) (hc1_2 : l1_2.length ≤ c1_2) (h : laws_vField.f k a0_0 a0_1 l0_2 a1_0 a1_1 l1_2 = some r) :
  Calls Try.prog 16 #[.agg #[.int .i64 a0_0, .int .i64 a0_1, .slice A0_2 l0_2.length c0_2], .agg #[.int .i64 a1_0, .int .i64 a1_1, .slice A1_2 l1_2.length c1_2]] w fun e w' => e = .returned (.bool r) ∧ Below w.heap.size w w' := by
 have hu26 := Try.underlying26
 have HR0_2 := A_ hr0_2
 have HC0_2 := A_ hc0_2
 clear hr0_2 hc0_2
 have HR1_2 := A_ hr1_2
 have HC1_2 := A_ hc1_2
 clear hr1_2 hc1_2
 have HB := A_ (Below.refl w.heap.size w)
 have H : (if a0_0 = a1_0 then (if a0_1 = a1_1 then ((laws_vInts.f k l0_2 l1_2).bind fun t401 => (some t401)) else (some false)) else (some false)) = some r := h
 clear h
 by_cases c3 : a0_0 = a1_0
 rotate_left
 ·
  rw [if_neg c3] at H
  have c3b0 : (a0_0 == a1_0) = false := beq_eq_false_iff_ne.mpr c3
  have c3b1 : (a0_0 != a1_0) = true := bne_iff_ne.mpr c3
  obtain rfl := Option.some.inj H
  go_enter Try.func16, Try.ntmps16
  go_wp2_with (first | ((with_reducible refine gd_ 2 rfl ?_); refine box_event rfl (N := 2) rfl (cs := #[.int .i64 a0_0, .int .i64 a0_1, .slice A0_2 l0_2.length c0_2]) (t := 26) mc353 ?_; intro gb399 hg w16 hbox hb; have BK399 := A_ (hbox); have GW399 := A_ ((mc213 : w.heap.size ≤ gb399)); have GE399 := A_ ((mc213 : w.heap.size ≤ gb399)); replace HB := A_ (below_step mc249 hb); clear hb hbox hg) | ((with_reducible refine gd_ 3 rfl ?_); refine box_event rfl (N := 3) rfl (cs := #[.int .i64 a1_0, .int .i64 a1_1, .slice A1_2 l1_2.length c1_2]) (t := 26) mc353 ?_; intro gb400 hg w17 hbox hb; have BK400 := A_ (hbox); have GW400 := A_ ((mc165 : w.heap.size ≤ gb400)); have GE400 := A_ ((mc165 : w.heap.size ≤ gb400)); replace HB := A_ (below_step mc215 hb); have NB399_400 := A_ ((mc235 : gb399 ≠ gb400)); have NB400_399 := A_ ((mc236 : gb400 ≠ gb399)); replace BK399 := A_ (blk_below mc270 hb); clear hb hbox hg; have hnb18 := NB399_400.out; have hnc18 := NB400_399.out; have hcz19_0 : w17.cell? ⟨gb399, 0, none⟩ = some (.int .i64 a0_0) := bc_ BK399 0 rfl; have hcz19_1 : w17.cell? ⟨gb399, 1, none⟩ = some (.int .i64 a0_1) := bc_ BK399 1 rfl; have hcz19_2 : w17.cell? ⟨gb399, 2, none⟩ = some (.slice A0_2 l0_2.length c0_2) := bc_ BK399 2 rfl; have hfz19_0 := blk_frozen BK399.out 0; have hfz19_1 := blk_frozen BK399.out 1; have hfz19_2 := blk_frozen BK399.out 2; have hcz20_0 : w17.cell? ⟨gb400, 0, none⟩ = some (.int .i64 a1_0) := bc_ BK400 0 rfl; have hcz20_1 : w17.cell? ⟨gb400, 1, none⟩ = some (.int .i64 a1_1) := bc_ BK400 1 rfl; have hcz20_2 : w17.cell? ⟨gb400, 2, none⟩ = some (.slice A1_2 l1_2.length c1_2) := bc_ BK400 2 rfl; have hfz20_0 := blk_frozen BK400.out 0; have hfz20_1 := blk_frozen BK400.out 1; have hfz20_2 := blk_frozen BK400.out 2))
  go_ret
  exact ⟨mc332, mc192⟩
 rw [if_pos c3] at H
 have c3b0 : (a0_0 == a1_0) = true := beq_iff_eq.mpr c3
 have c3b1 : (a0_0 != a1_0) = false := bne_eq_false_iff_eq.mpr c3
 clear c3
 by_cases c4 : a0_1 = a1_1
 rotate_left
 ·
  rw [if_neg c4] at H
  have c4b0 : (a0_1 == a1_1) = false := beq_eq_false_iff_ne.mpr c4
  have c4b1 : (a0_1 != a1_1) = true := bne_iff_ne.mpr c4
  obtain rfl := Option.some.inj H
  go_enter Try.func16, Try.ntmps16
  go_wp2_with (first | ((with_reducible refine gd_ 2 rfl ?_); refine box_event rfl (N := 2) rfl (cs := #[.int .i64 a0_0, .int .i64 a0_1, .slice A0_2 l0_2.length c0_2]) (t := 26) mc353 ?_; intro gb399 hg w11 hbox hb; have BK399 := A_ (hbox); have GW399 := A_ ((mc213 : w.heap.size ≤ gb399)); have GE399 := A_ ((mc213 : w.heap.size ≤ gb399)); replace HB := A_ (below_step mc249 hb); clear hb hbox hg) | ((with_reducible refine gd_ 3 rfl ?_); refine box_event rfl (N := 3) rfl (cs := #[.int .i64 a1_0, .int .i64 a1_1, .slice A1_2 l1_2.length c1_2]) (t := 26) mc353 ?_; intro gb400 hg w12 hbox hb; have BK400 := A_ (hbox); have GW400 := A_ ((mc165 : w.heap.size ≤ gb400)); have GE400 := A_ ((mc165 : w.heap.size ≤ gb400)); replace HB := A_ (below_step mc215 hb); have NB399_400 := A_ ((mc235 : gb399 ≠ gb400)); have NB400_399 := A_ ((mc236 : gb400 ≠ gb399)); replace BK399 := A_ (blk_below mc270 hb); clear hb hbox hg; have hnb13 := NB399_400.out; have hnc13 := NB400_399.out; have hcz14_0 : w12.cell? ⟨gb399, 0, none⟩ = some (.int .i64 a0_0) := bc_ BK399 0 rfl; have hcz14_1 : w12.cell? ⟨gb399, 1, none⟩ = some (.int .i64 a0_1) := bc_ BK399 1 rfl; have hcz14_2 : w12.cell? ⟨gb399, 2, none⟩ = some (.slice A0_2 l0_2.length c0_2) := bc_ BK399 2 rfl; have hfz14_0 := blk_frozen BK399.out 0; have hfz14_1 := blk_frozen BK399.out 1; have hfz14_2 := blk_frozen BK399.out 2; have hcz15_0 : w12.cell? ⟨gb400, 0, none⟩ = some (.int .i64 a1_0) := bc_ BK400 0 rfl; have hcz15_1 : w12.cell? ⟨gb400, 1, none⟩ = some (.int .i64 a1_1) := bc_ BK400 1 rfl; have hcz15_2 : w12.cell? ⟨gb400, 2, none⟩ = some (.slice A1_2 l1_2.length c1_2) := bc_ BK400 2 rfl; have hfz15_0 := blk_frozen BK400.out 0; have hfz15_1 := blk_frozen BK400.out 1; have hfz15_2 := blk_frozen BK400.out 2))
  go_ret
  exact ⟨mc332, mc192⟩
 rw [if_pos c4] at H
 have c4b0 : (a0_1 == a1_1) = true := beq_iff_eq.mpr c4
 have c4b1 : (a0_1 != a1_1) = false := bne_eq_false_iff_eq.mpr c4
 clear c4
 obtain ⟨t401, A50, H⟩ := oB_ H
 have A5 := A_ A50
 clear A50
 obtain rfl := Option.some.inj H
 go_enter Try.func16, Try.ntmps16
 go_wp2_with (first | ((with_reducible refine gd_ 2 rfl ?_); refine box_event rfl (N := 2) rfl (cs := #[.int .i64 a0_0, .int .i64 a0_1, .slice A0_2 l0_2.length c0_2]) (t := 26) mc353 ?_; intro gb399 hg w6 hbox hb; have BK399 := A_ (hbox); have GW399 := A_ ((mc213 : w.heap.size ≤ gb399)); have GE399 := A_ ((mc213 : w.heap.size ≤ gb399)); replace HB := A_ (below_step mc249 hb); clear hb hbox hg) | ((with_reducible refine gd_ 3 rfl ?_); refine box_event rfl (N := 3) rfl (cs := #[.int .i64 a1_0, .int .i64 a1_1, .slice A1_2 l1_2.length c1_2]) (t := 26) mc353 ?_; intro gb400 hg w7 hbox hb; have BK400 := A_ (hbox); have GW400 := A_ ((mc165 : w.heap.size ≤ gb400)); have GE400 := A_ ((mc165 : w.heap.size ≤ gb400)); replace HB := A_ (below_step mc215 hb); have NB399_400 := A_ ((mc235 : gb399 ≠ gb400)); have NB400_399 := A_ ((mc236 : gb400 ≠ gb399)); replace BK399 := A_ (blk_below mc270 hb); clear hb hbox hg; have hnb8 := NB399_400.out; have hnc8 := NB400_399.out; have hcz9_0 : w7.cell? ⟨gb399, 0, none⟩ = some (.int .i64 a0_0) := bc_ BK399 0 rfl; have hcz9_1 : w7.cell? ⟨gb399, 1, none⟩ = some (.int .i64 a0_1) := bc_ BK399 1 rfl; have hcz9_2 : w7.cell? ⟨gb399, 2, none⟩ = some (.slice A0_2 l0_2.length c0_2) := bc_ BK399 2 rfl; have hfz9_0 := blk_frozen BK399.out 0; have hfz9_1 := blk_frozen BK399.out 1; have hfz9_2 := blk_frozen BK399.out 2; have hcz10_0 : w7.cell? ⟨gb400, 0, none⟩ = some (.int .i64 a1_0) := bc_ BK400 0 rfl; have hcz10_1 : w7.cell? ⟨gb400, 1, none⟩ = some (.int .i64 a1_1) := bc_ BK400 1 rfl; have hcz10_2 : w7.cell? ⟨gb400, 2, none⟩ = some (.slice A1_2 l1_2.length c1_2) := bc_ BK400 2 rfl; have hfz10_0 := blk_frozen BK400.out 0; have hfz10_1 := blk_frozen BK400.out 1; have hfz10_2 := blk_frozen BK400.out 2) | (go_at_call 52; (with_reducible refine (laws_vInts.calls k _ _ l0_2 _ _ l1_2 t401 _ ?side1 ?side2 ?side3 ?side4 A5.out).mono ?_); (case side1 => exact mc200); (case side2 => exact HC0_2.out); (case side3 => exact mc201); (case side4 => exact HC1_2.out); rintro e w' ⟨rfl, ⟨nd, rfl⟩⟩))
 go_ret
 exact ⟨mc332, mc192⟩

end Go.Proofs.Ytdmkbfjipgaloaa.P
