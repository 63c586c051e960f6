-- Made by pp.py of this session out of the kit's print and of contracts proved by hand; Lean checks it.
import Derived.Test.YtdmkbfjipgaloaaMc
import Derived.Test.YtdmkbfjipgaloaaPx0
import Derived.Test.YtdmkbfjipgaloaaPx9
import Derived.Test.YtdmkbfjipgaloaaPx10
import Derived.Test.YtdmkbfjipgaloaaPx21
namespace Go.Proofs.Ytdmkbfjipgaloaa.P
open Go.RowKit Go.Proofs.YtdmkbfjipgaloaaW.PrintWords Go.Proofs.YtdmkbfjipgaloaaW.PrintLast Go.Proofs.YtdmkbfjipgaloaaW.PrintMore
attribute [local go_sem] max2_int min2_int max_two min_two max_three min_three max_four min_four   -- for this text's walks alone
set_option linter.unusedVariables false
set_option linter.unusedSimpArgs false

/-! ### impl_CopyRegion: function 31 -/

set_option maxHeartbeats 1000000
def mk_impl_CopyRegion_1.f (_ _ : Int) (l : List Int) : Option (Int → Int → Option Int) := some fun c _ => if 0 ≤ c then (if c < (l.length : Int) then some (rd l c) else none) else none
theorem mk_impl_CopyRegion_1.fn (x y : Int) (A : Option Addr) (n : Nat) (l : List Int) (F : Int → Int → Option Int) (w : World) (hr : Kd.C (Kd.int .i64) w A l.length l) (_hc : l.length ≤ n) (h : mk_impl_CopyRegion_1.f x y l = some F) (g : Nat) (b : w.heap[g]? = some (.cells #[.int .i64 x, .int .i64 y, .slice A l.length n] 26 (0, 0))) : ∀ W_ : World, Below w.heap.size w W_ → ∀ c0_ c1_ r_, F c0_ c1_ = some r_ → Calls Try.prog 65 (#[.int .i64 c0_, .int .i64 c1_] ++ #[.pointer (some ⟨g, 0, none⟩)]) W_ fun e w' => e = .returned (.int .i64 r_) ∧ Drawn0 W_ w' := by
 intro W hB c0 c1 r hr2
 have b1 := blk_below b hB
 have HR := A_ (Kd.C_below hr hB)
 have hcz0 : W.cell? ⟨g, 0, none⟩ = some (.int .i64 x) := (blk_cell b1 0).trans rfl
 have hcz1 : W.cell? ⟨g, 1, none⟩ = some (.int .i64 y) := (blk_cell b1 1).trans rfl
 have hcz2 : W.cell? ⟨g, 2, none⟩ = some (.slice A l.length n) := (blk_cell b1 2).trans rfl
 have hfz0 := blk_frozen b1 0
 have hfz1 := blk_frozen b1 1
 have hfz2 := blk_frozen b1 2
 obtain rfl := Option.some.inj h
 clear b b1 hB h hr _hc
 show Calls Try.prog 65 #[.int .i64 c0, .int .i64 c1, .pointer (some ⟨g, 0, none⟩)] W fun e w' => e = .returned (.int .i64 r) ∧ Drawn0 W w'
 by_cases h0 : 0 ≤ c0
 rotate_left
 ·
  have hr' : none = some r := by rw [← hr2]; exact (if_neg h0).symm
  cases hr'
 by_cases h1 : c0 < (l.length : Int)
 rotate_left
 ·
  have hr' : none = some r := by rw [← hr2]; exact ((if_pos h0).trans (if_neg h1)).symm
  cases hr'
 have hr' : some (rd l c0) = some r := by rw [← hr2]; exact ((if_pos h0).trans (if_pos h1)).symm
 obtain rfl := Option.some.inj hr'
 clear hr2 hr'
 obtain ⟨ad, e1, hx⟩ := Kd.at_int HR.out c0 h0 h1
 cases e1
 have d0 : decide (0 ≤ c0) = true := decide_eq_true h0
 have d1 : decide (c0 < (l.length : Int)) = true := decide_eq_true h1
 replace h0 := eq_true h0
 replace h1 := eq_true h1
 go_enter Try.func65, Try.ntmps65
 go_wp2
 go_ret
 exact ⟨rfl, mc338⟩
def impl_CopyRegion.j0 : Nat → List Int → Bool → Int → Int → List Int → Int → Int → List Int → Option (Int × Int × List Int × Bool)
 | 0, _, _, _, _, _, _, _, _ => none
 | k + 1, x2, x18, x434000, x434001, x434002, x435000, x435001, x435002 => if x18 = true then (some (0, 0, ([] : List Int), false)) else ((mk_impl_CopyRegion_1.f x435000 x435001 x435002).bind fun t441 => ((impl_editedField.f k x434000 x434001 x434002 x2 t441).bind fun bt442 => (some (bt442.1, bt442.2.1, bt442.2.2.1, bt442.2.2.2))))
def impl_CopyRegion.f (k : Nat) (a0_0 : Int) (a0_1 : Int) (l0_2 : List Int) (a1_0 : Int) (a1_1 : Int) (l1_2 : List Int) (l2 : List Int) : Option (Int × Int × List Int × Bool) := (impl_isRegionOf.f k a0_0 a0_1 l0_2 l2).bind fun t436 => (if t436 = true then ((impl_areAlike.f k (([(⟨a0_0, a0_1, l0_2⟩ : S26), (⟨a1_0, a1_1, l1_2⟩ : S26)] : List (S26)))).bind fun t440 => (impl_CopyRegion.j0 k l2 (!t440) a0_0 a0_1 l0_2 a1_0 a1_1 l1_2)) else (impl_CopyRegion.j0 k l2 true a0_0 a0_1 l0_2 a1_0 a1_1 l1_2))
set_option maxHeartbeats 8000000 in
set_option maxRecDepth 100000 in
theorem impl_CopyRegion.calls (k : Nat) (a0_0 : Int) (a0_1 : Int) (P0_2_ : Nat → Prop) (A0_2 : Option Addr) (c0_2 : Nat) (l0_2 : List Int) (a1_0 : Int) (a1_1 : Int) (P1_2_ : Nat → Prop) (A1_2 : Option Addr) (c1_2 : Nat) (l1_2 : List Int) (A2 : Option Addr) (c2 : Nat) (l2 : List Int) (r1 : Int) (r2 : Int) (r3 : List Int) (r4 : Bool) (w : World) (hs0_2 : Kd.V (Kd.int .i64) 3 w w.heap.size (fun k_ => P0_2_ k_) (.slice A0_2 l0_2.length c0_2) l0_2) (hs1_2 : Kd.V (Kd.int .i64) 3 w w.heap.size (fun k_ => P1_2_ k_) (.slice A1_2 l1_2.length c1_2) l1_2) (hr2 : Kd.C (Kd.int .i64) w A2 l2.length l2) (hc2 : l2.length ≤ c2) (h : impl_CopyRegion.f k a0_0 a0_1 l0_2 a1_0 a1_1 l1_2 l2 = some (r1, r2, r3, r4)) :
  Calls Try.prog 31 #[.agg #[.int .i64 a0_0, .int .i64 a0_1, .slice A0_2 l0_2.length c0_2], .agg #[.int .i64 a1_0, .int .i64 a1_1, .slice A1_2 l1_2.length c1_2], .slice A2 l2.length c2] w fun e w' => ∃ v2_ : Value, e = .returned (.tuple #[.agg #[.int .i64 r1, .int .i64 r2, v2_], .bool r4]) ∧ Kd.R (Kd.int .i64) 3 w' w.heap.size (fun k_ => (w.heap.size ≤ k_)) v2_ r3 ∧ Below w.heap.size w w' := by
 have hu26 := Try.underlying26
 have HO0_2 := A_ (show Kd.V (Kd.int .i64) 3 w w.heap.size (fun k_ => ((P0_2_ k_ ∨ P1_2_ k_) ∨ w.heap.size ≤ k_)) (.slice A0_2 l0_2.length c0_2) l0_2 from Kd.V_mono hs0_2 (fun k_ hk => .inl (.inl hk)))
 have HO1_2 := A_ (show Kd.V (Kd.int .i64) 3 w w.heap.size (fun k_ => ((P0_2_ k_ ∨ P1_2_ k_) ∨ w.heap.size ≤ k_)) (.slice A1_2 l1_2.length c1_2) l1_2 from Kd.V_mono hs1_2 (fun k_ hk => .inl (.inr hk)))
 have HR2 := A_ hr2
 have HC2 := A_ hc2
 clear hr2 hc2
 have HB := A_ (Below.refl w.heap.size w)
 have H : ((impl_isRegionOf.f k a0_0 a0_1 l0_2 l2).bind fun t436 => (if t436 = true then ((impl_areAlike.f k (([(⟨a0_0, a0_1, l0_2⟩ : S26), (⟨a1_0, a1_1, l1_2⟩ : S26)] : List (S26)))).bind fun t440 => (impl_CopyRegion.j0 k l2 (!t440) a0_0 a0_1 l0_2 a1_0 a1_1 l1_2)) else (impl_CopyRegion.j0 k l2 true a0_0 a0_1 l0_2 a1_0 a1_1 l1_2))) = some (r1, r2, r3, r4) := h
 clear h
 have HC4 := A_ H
 clear H
 go_enter Try.func31, Try.ntmps31
 go_upto_region 1 with (first | ((with_reducible refine gd_ 3 rfl ?_); (try (refine gate_guard (by rfl) ?_; dsimp only)); refine box_event rfl (N := 3) rfl (cs := #[.int .i64 a0_0, .int .i64 a0_1, .slice A0_2 l0_2.length c0_2]) (t := 26) mc353 ?_; intro gb433 hg w5 hbox hb; replace HO0_2 := A_ (Kd.V_below (Kd.V_elderB mc325 gb433 (Nat.le_of_eq hg.symm)) hb); replace HO1_2 := A_ (Kd.V_below (Kd.V_elderB mc326 gb433 (Nat.le_of_eq hg.symm)) hb); have BK433 := A_ (hbox); have GW433 := A_ ((mc213 : w.heap.size ≤ gb433)); have GE433 := A_ ((mc213 : w.heap.size ≤ gb433)); replace HB := A_ (below_step mc249 hb); clear hb hbox hg) | ((with_reducible refine gd_ 4 rfl ?_); (try (refine gate_guard (by rfl) ?_; dsimp only)); refine box_event rfl (N := 4) rfl (cs := #[.int .i64 a1_0, .int .i64 a1_1, .slice A1_2 l1_2.length c1_2]) (t := 26) mc353 ?_; intro gb434 hg w6 hbox hb; replace HO0_2 := A_ (Kd.V_below (Kd.V_elderB mc325 gb434 (Nat.le_of_eq hg.symm)) hb); replace HO1_2 := A_ (Kd.V_below (Kd.V_elderB mc326 gb434 (Nat.le_of_eq hg.symm)) hb); have BK434 := A_ (hbox); have GW434 := A_ ((mc173 : w.heap.size ≤ gb434)); have GE434 := A_ ((mc173 : w.heap.size ≤ gb434)); replace HB := A_ (below_step mc226 hb); have NB433_434 := A_ ((by rw [hg]; exact Nat.ne_of_lt (blk_lt mc283) : gb433 ≠ gb434)); have NB434_433 := A_ ((by rw [hg]; exact Nat.ne_of_gt (blk_lt mc283) : gb434 ≠ gb433)); replace BK433 := A_ (blk_below mc283 hb); clear hb hbox hg) | ((with_reducible refine gd_ 6 rfl ?_); (try (refine gate_guard (by rfl) ?_; dsimp only)); refine box_event rfl (N := 6) rfl (cs := #[.int .i64 0, .int .i64 0, .slice none 0 0]) (t := 26) mc353 ?_; intro gb435 hg w7 hbox hb; replace HO0_2 := A_ (Kd.V_below (Kd.V_elderB mc325 gb435 (Nat.le_of_eq hg.symm)) hb); replace HO1_2 := A_ (Kd.V_below (Kd.V_elderB mc326 gb435 (Nat.le_of_eq hg.symm)) hb); have BK435 := A_ (hbox); have GW435 := A_ ((mc126 : w.heap.size ≤ gb435)); have GE435 := A_ ((mc126 : w.heap.size ≤ gb435)); replace HB := A_ (below_step mc186 hb); have NB433_435 := A_ ((by rw [hg]; exact Nat.ne_of_lt (blk_lt mc283) : gb433 ≠ gb435)); have NB435_433 := A_ ((by rw [hg]; exact Nat.ne_of_gt (blk_lt mc283) : gb435 ≠ gb433)); replace BK433 := A_ (blk_below mc283 hb); have NB434_435 := A_ ((by rw [hg]; exact Nat.ne_of_lt (blk_lt mc284) : gb434 ≠ gb435)); have NB435_434 := A_ ((by rw [hg]; exact Nat.ne_of_gt (blk_lt mc284) : gb435 ≠ gb434)); replace BK434 := A_ (blk_below mc284 hb); clear hb hbox hg))
 (try simp only [Act.put, List.setIfInBounds_toArray, List.set_cons_zero, List.set_cons_succ])
 go_cut [18] (fun v18 wc => ∃ (kq : Nat) (x18_3 : Bool), v18 = .bool x18_3 ∧ Aside0 (impl_CopyRegion.j0 kq l2 x18_3 a0_0 a0_1 l0_2 a1_0 a1_1 l1_2 = some (r1, r2, r3, r4)) ∧ Aside0 (kq ≤ k) ∧ Aside0 (Kd.V (Kd.int .i64) 3 wc w.heap.size (fun k_ => ((P0_2_ k_ ∨ P1_2_ k_) ∨ w.heap.size ≤ k_) ∧ k_ ≠ gb433 ∧ k_ ≠ gb434 ∧ k_ ≠ gb435) (.slice A0_2 l0_2.length c0_2) l0_2) ∧ Aside0 (Kd.V (Kd.int .i64) 3 wc w.heap.size (fun k_ => ((P0_2_ k_ ∨ P1_2_ k_) ∨ w.heap.size ≤ k_) ∧ k_ ≠ gb433 ∧ k_ ≠ gb434 ∧ k_ ≠ gb435) (.slice A1_2 l1_2.length c1_2) l1_2) ∧ Aside0 (wc.heap[gb433]? = some (.cells #[.int .i64 a0_0, .int .i64 a0_1, (.slice A0_2 l0_2.length c0_2)] 26 (0, 0))) ∧ Aside0 (wc.heap[gb434]? = some (.cells #[.int .i64 a1_0, .int .i64 a1_1, (.slice A1_2 l1_2.length c1_2)] 26 (0, 0))) ∧ Aside0 (wc.heap[gb435]? = some (.cells #[.int .i64 0, .int .i64 0, (.slice none 0 0)] 26 (0, 0))) ∧ Aside0 (Below w.heap.size w wc))
 case first =>
  have H := HC4.out
  clear HC4
  obtain ⟨t436, A80, H⟩ := oB_ H
  have A8 := A_ A80
  clear A80
  by_cases c9 : t436 = true
  rotate_left
  ·
   replace c9 := Bool.eq_false_iff.mpr c9
   subst c9
   rw [if_neg (show ¬ (false = true) by decide)] at H
   have H' := A_ H
   clear H
   have hnb22 := NB433_434.out
   have hnc22 := NB434_433.out
   have hnb23 := NB433_435.out
   have hnc23 := NB435_433.out
   have hcz24_0 : w7.cell? ⟨gb433, 0, none⟩ = some (.int .i64 a0_0) := bc_ BK433 0 rfl
   have hcz24_1 : w7.cell? ⟨gb433, 1, none⟩ = some (.int .i64 a0_1) := bc_ BK433 1 rfl
   have hcz24_2 : w7.cell? ⟨gb433, 2, none⟩ = some (.slice A0_2 l0_2.length c0_2) := bc_ BK433 2 rfl
   have hfz24_0 := blk_frozen BK433.out 0
   have hfz24_1 := blk_frozen BK433.out 1
   have hfz24_2 := blk_frozen BK433.out 2
   go_wp2_with (first | ((with_reducible refine gc_ 58 rfl ?_); refine goesL_ (some 10) rfl rfl Try.func58 kr_ rfl #[.agg #[.int .i64 a0_0, .int .i64 a0_1, .slice A0_2 l0_2.length c0_2], .slice A2 l2.length c2] rfl mc247 ?_; (with_reducible refine (impl_isRegionOf.calls k a0_0 a0_1 _ _ l0_2 _ _ l2 false _ ?side1 ?side2 ?side3 ?side4 A8.out).mono ?_); (case side1 => repeat (first | exact (Kd.V_reads' HO0_2.out).2.2 | (with_reducible refine Kd.C_alloc ?_ _) | (with_reducible refine Kd.C_drewN ?_ _) | (with_reducible refine Kd.C_drew ?_))); (case side2 => exact (Kd.V_reads' HO0_2.out).2.1); (case side3 => exact mc206); (case side4 => exact HC2.out); rintro e w25 ⟨rfl, hb⟩; refine ⟨_, rfl, ?_⟩; replace HO0_2 := A_ (Kd.V_below mc325 hb); replace HO1_2 := A_ (Kd.V_below mc326 hb); replace BK433 := A_ (blk_below mc283 hb); replace BK434 := A_ (blk_below mc284 hb); replace BK435 := A_ (blk_below mc285 hb); replace HB := A_ (below_step mc132 hb); (try clear hb)))
   go_meet
   case rel => exact ⟨_, (true), mc352, H', ⟨mc355⟩, ⟨by (with_reducible repeat (first | apply Kd.V_alloc | apply Kd.V_drewN | apply Kd.V_drew)); exact Kd.V_mono HO0_2.out (fun _ hk => ⟨hk.1.1.1, ⟨hk.1.1.2, ⟨hk.1.2, hk.2⟩⟩⟩)⟩, ⟨by (with_reducible repeat (first | apply Kd.V_alloc | apply Kd.V_drewN | apply Kd.V_drew)); exact Kd.V_mono HO1_2.out (fun _ hk => ⟨hk.1.1.1, ⟨hk.1.1.2, ⟨hk.1.2, hk.2⟩⟩⟩)⟩, ⟨mc283⟩, ⟨mc284⟩, ⟨mc285⟩, ⟨mc132⟩⟩
  subst c9
  rw [if_pos rfl] at H
  obtain ⟨y437, hy437⟩ : ∃ y_ : List (S26), y_ = (([(⟨a0_0, a0_1, l0_2⟩ : S26), (⟨a1_0, a1_1, l1_2⟩ : S26)] : List (S26))) := ⟨_, rfl⟩
  replace H : ((impl_areAlike.f k y437).bind fun t440 => (impl_CopyRegion.j0 k l2 (!t440) a0_0 a0_1 l0_2 a1_0 a1_1 l1_2)) = some (r1, r2, r3, r4) := by first | (rw [hy437]; with_reducible exact H) | (have H2_ := (Option.bind_some _ _).symm.trans H; rw [hy437]; with_reducible exact H2_) | (have H2_ := (Option.bind_some _ _).symm.trans H; with_reducible exact H2_) | with_reducible exact H | (rw [hy437]; exact H) | exact H
  have Ny437 := A_ hy437
  clear hy437
  obtain ⟨t440, A100, H⟩ := oB_ H
  have A10 := A_ A100
  clear A100
  have H' := A_ H
  clear H
  have hnb11 := NB433_434.out
  have hnc11 := NB434_433.out
  have hnb12 := NB433_435.out
  have hnc12 := NB435_433.out
  have hcz13_0 : w7.cell? ⟨gb433, 0, none⟩ = some (.int .i64 a0_0) := bc_ BK433 0 rfl
  have hcz13_1 : w7.cell? ⟨gb433, 1, none⟩ = some (.int .i64 a0_1) := bc_ BK433 1 rfl
  have hcz13_2 : w7.cell? ⟨gb433, 2, none⟩ = some (.slice A0_2 l0_2.length c0_2) := bc_ BK433 2 rfl
  have hfz13_0 := blk_frozen BK433.out 0
  have hfz13_1 := blk_frozen BK433.out 1
  have hfz13_2 := blk_frozen BK433.out 2
  go_wp2_with (first | ((with_reducible refine gc_ 58 rfl ?_); refine goesL_ (some 10) rfl rfl Try.func58 kr_ rfl #[.agg #[.int .i64 a0_0, .int .i64 a0_1, .slice A0_2 l0_2.length c0_2], .slice A2 l2.length c2] rfl mc247 ?_; (with_reducible refine (impl_isRegionOf.calls k a0_0 a0_1 _ _ l0_2 _ _ l2 true _ ?side1 ?side2 ?side3 ?side4 A8.out).mono ?_); (case side1 => repeat (first | exact (Kd.V_reads' HO0_2.out).2.2 | (with_reducible refine Kd.C_alloc ?_ _) | (with_reducible refine Kd.C_drewN ?_ _) | (with_reducible refine Kd.C_drew ?_))); (case side2 => exact (Kd.V_reads' HO0_2.out).2.1); (case side3 => exact mc206); (case side4 => exact HC2.out); rintro e w14 ⟨rfl, hb⟩; refine ⟨_, rfl, ?_⟩; replace HO0_2 := A_ (Kd.V_below mc325 hb); replace HO1_2 := A_ (Kd.V_below mc326 hb); replace BK433 := A_ (blk_below mc283 hb); replace BK434 := A_ (blk_below mc284 hb); replace BK435 := A_ (blk_below mc285 hb); replace HB := A_ (below_step mc132 hb); (try clear hb); have hcz15_0 : w14.cell? ⟨gb433, 0, none⟩ = some (.int .i64 a0_0) := bc_ BK433 0 rfl; have hcz15_1 : w14.cell? ⟨gb433, 1, none⟩ = some (.int .i64 a0_1) := bc_ BK433 1 rfl; have hcz15_2 : w14.cell? ⟨gb433, 2, none⟩ = some (.slice A0_2 l0_2.length c0_2) := bc_ BK433 2 rfl; have hfz15_0 := blk_frozen BK433.out 0; have hfz15_1 := blk_frozen BK433.out 1; have hfz15_2 := blk_frozen BK433.out 2; have hnb16 := NB434_435.out; have hnc16 := NB435_434.out; have hcz17_0 : w14.cell? ⟨gb434, 0, none⟩ = some (.int .i64 a1_0) := bc_ BK434 0 rfl; have hcz17_1 : w14.cell? ⟨gb434, 1, none⟩ = some (.int .i64 a1_1) := bc_ BK434 1 rfl; have hcz17_2 : w14.cell? ⟨gb434, 2, none⟩ = some (.slice A1_2 l1_2.length c1_2) := bc_ BK434 2 rfl; have hfz17_0 := blk_frozen BK434.out 0; have hfz17_1 := blk_frozen BK434.out 1; have hfz17_2 := blk_frozen BK434.out 2) | ((with_reducible refine gd_ 15 rfl ?_); (try (refine gate_guard (by rfl) ?_; dsimp only)); refine Kd.N_lit k26 _ 26 ?hg (N' := 15) ?hd (xs := ([(⟨a0_0, a0_1, l0_2⟩ : S26), (⟨a1_0, a1_1, l1_2⟩ : S26)] : List (S26))) (inner := [.int .i64 a0_0, .int .i64 a0_1, .slice A0_2 l0_2.length c0_2, .int .i64 a1_0, .int .i64 a1_1, .slice A1_2 l1_2.length c1_2]) (ok := (fun k_ => ((P0_2_ k_ ∨ P1_2_ k_) ∨ w.heap.size ≤ k_) ∧ k_ ≠ gb433 ∧ k_ ≠ gb434 ∧ k_ ≠ gb435)) (okp := (fun k_ => ((P0_2_ k_ ∨ P1_2_ k_) ∨ w.heap.size ≤ k_) ∧ k_ ≠ gb433 ∧ k_ ≠ gb434 ∧ k_ ≠ gb435)) ?hr ?hp (fun _ hk => hk) ((show ∀ k_, w14.heap.size ≤ k_ → (fun k_ => ((P0_2_ k_ ∨ P1_2_ k_) ∨ w.heap.size ≤ k_) ∧ k_ ≠ gb433 ∧ k_ ≠ gb434 ∧ k_ ≠ gb435) k_ from fun k_ hk => ⟨(.inr (Nat.le_trans (below_size mc132) hk)), Kd.freshB (g := gb433) (o := .cells #[.int .i64 a0_0, .int .i64 a0_1, .slice A0_2 l0_2.length c0_2] 26 (0, 0)) mc283 k_ hk, Kd.freshB (g := gb434) (o := .cells #[.int .i64 a1_0, .int .i64 a1_1, .slice A1_2 l1_2.length c1_2] 26 (0, 0)) mc284 k_ hk, Kd.freshB (g := gb435) (o := .cells #[.int .i64 0, .int .i64 0, .slice none 0 0] 26 (0, 0)) mc285 k_ hk⟩) _ (Nat.le_refl _)) (Below.refl _ _) (Nat.le_refl _) (by simp) ?_; (case hd => rfl); (case hg => rfl); (case hr => exact mc353); (case hp => exact (Reps.c3 (show Kd.FK k26 _ _ (⟨a0_0, a0_1, l0_2⟩ : S26) [.int .i64 a0_0, .int .i64 a0_1, .slice A0_2 l0_2.length c0_2] from (k26_mkF _ _ (⟨a0_0, a0_1, l0_2⟩ : S26) (Kd.V_reads' (Kd.V_mono (ok' := (fun k_ => ((P0_2_ k_ ∨ P1_2_ k_) ∨ w.heap.size ≤ k_) ∧ k_ ≠ gb433 ∧ k_ ≠ gb434 ∧ k_ ≠ gb435)) (HO0_2.out) (fun k_ hk => ⟨hk.1.1.1, ⟨hk.1.1.2, ⟨hk.1.2, hk.2⟩⟩⟩))).2.1 (Kd.V_F (Kd.V_mono (ok' := (fun k_ => ((P0_2_ k_ ∨ P1_2_ k_) ∨ w.heap.size ≤ k_) ∧ k_ ≠ gb433 ∧ k_ ≠ gb434 ∧ k_ ≠ gb435)) (HO0_2.out) (fun k_ hk => ⟨hk.1.1.1, ⟨hk.1.1.2, ⟨hk.1.2, hk.2⟩⟩⟩))))) (Reps.c3 (show Kd.FK k26 _ _ (⟨a1_0, a1_1, l1_2⟩ : S26) [.int .i64 a1_0, .int .i64 a1_1, .slice A1_2 l1_2.length c1_2] from (k26_mkF _ _ (⟨a1_0, a1_1, l1_2⟩ : S26) (Kd.V_reads' (Kd.V_mono (ok' := (fun k_ => ((P0_2_ k_ ∨ P1_2_ k_) ∨ w.heap.size ≤ k_) ∧ k_ ≠ gb433 ∧ k_ ≠ gb434 ∧ k_ ≠ gb435)) (HO1_2.out) (fun k_ hk => ⟨hk.1.1.1, ⟨hk.1.1.2, ⟨hk.1.2, hk.2⟩⟩⟩))).2.1 (Kd.V_F (Kd.V_mono (ok' := (fun k_ => ((P0_2_ k_ ∨ P1_2_ k_) ∨ w.heap.size ≤ k_) ∧ k_ ≠ gb433 ∧ k_ ≠ gb434 ∧ k_ ≠ gb435)) (HO1_2.out) (fun k_ hk => ⟨hk.1.1.1, ⟨hk.1.1.2, ⟨hk.1.2, hk.2⟩⟩⟩))))) (Reps.none _ _)))); intro v438 w18 ho19 hb hg_ hnew_; clear hg_ hnew_; (first | rw [← Ny437.out] at ho19 | (simp only [Int.reduceToNat] at ho19; rw [← Ny437.out] at ho19)); replace HO0_2 := A_ (Kd.V_elder' mc325 (Kd.N_base ho19) hb); replace HO1_2 := A_ (Kd.V_elder' mc326 (Kd.N_base ho19) hb); have HO439 := A_ (Kd.N_lower ho19 (below_size mc132)); replace BK433 := A_ (blk_below mc283 hb); replace BK434 := A_ (blk_below mc284 hb); replace BK435 := A_ (blk_below mc285 hb); replace HB := A_ (below_step mc132 hb); clear hb ho19; obtain ⟨Ao20, co20, eo20⟩ := Kd.N_slice HO439.out; subst eo20) | (go_at_call 64; (with_reducible refine (impl_areAlike.calls k _ _ y437 t440 _ ?side1 ?side2 A10.out).mono ?_); (case side1 => repeat (first | exact (Kd.N_reads' HO439.out).2.2 | (with_reducible refine Kd.C_alloc ?_ _) | (with_reducible refine Kd.C_drewN ?_ _) | (with_reducible refine Kd.C_drew ?_))); (case side2 => exact (Kd.N_reads' HO439.out).2.1); rintro e w21 ⟨rfl, hb⟩; replace HO0_2 := A_ (Kd.V_below mc325 hb); replace HO1_2 := A_ (Kd.V_below mc326 hb); replace HO439 := A_ (Kd.N_below (by (with_reducible repeat (first | apply Kd.N_alloc | apply Kd.N_drewN | apply Kd.N_drew)); exact HO439.out) hb); replace BK433 := A_ (blk_below mc283 hb); replace BK434 := A_ (blk_below mc284 hb); replace BK435 := A_ (blk_below mc285 hb); replace HB := A_ (below_step mc132 hb); (try clear hb)))
  go_meet
  case rel => exact ⟨_, (!t440), mc352, H', ⟨mc355⟩, ⟨by (with_reducible repeat (first | apply Kd.V_alloc | apply Kd.V_drewN | apply Kd.V_drew)); exact Kd.V_mono HO0_2.out (fun _ hk => ⟨hk.1.1.1.1, ⟨hk.1.1.1.2, ⟨hk.1.1.2, hk.1.2⟩⟩⟩)⟩, ⟨by (with_reducible repeat (first | apply Kd.V_alloc | apply Kd.V_drewN | apply Kd.V_drew)); exact Kd.V_mono HO1_2.out (fun _ hk => ⟨hk.1.1.1.1, ⟨hk.1.1.1.2, ⟨hk.1.1.2, hk.1.2⟩⟩⟩)⟩, ⟨mc283⟩, ⟨mc284⟩, ⟨mc285⟩, ⟨mc132⟩⟩
 case rest =>
  clear HC4
  try clear p2
  obtain ⟨kq, x18_3, rfl, HA, HJ3, HO_434002, HO_435002, BK433, BK434, BK435, HB⟩ := hcut
  cases kq with
  | zero => exact absurd HA.out (by simp [impl_CopyRegion.j0])
  | succ kj3 =>
   have H := HA.out
   clear HA
   simp only [impl_CopyRegion.j0] at H
   by_cases c26 : x18_3 = true
   ·
    subst c26
    rw [if_pos rfl] at H
    simp only [Option.some.injEq, Prod.mk.injEq] at H
    obtain ⟨rfl, rfl, rfl, rfl⟩ := H
    have hnb27 := NB435_433.out
    have hnc27 := NB433_435.out
    have hnb28 := NB435_434.out
    have hnc28 := NB434_435.out
    have hcz29_0 : wc.cell? ⟨gb435, 0, none⟩ = some (.int .i64 0) := bc_ BK435 0 rfl
    have hcz29_1 : wc.cell? ⟨gb435, 1, none⟩ = some (.int .i64 0) := bc_ BK435 1 rfl
    have hcz29_2 : wc.cell? ⟨gb435, 2, none⟩ = some (.slice none 0 0) := bc_ BK435 2 rfl
    have hfz29_0 := blk_frozen BK435.out 0
    have hfz29_1 := blk_frozen BK435.out 1
    have hfz29_2 := blk_frozen BK435.out 2
    go_wp2
    refine bodyPost_ret (results_ct rfl _ _ gb435 26 #[.int .i64 0, .int .i64 0, .slice none 0 0] (0, 0) _ rfl (by (with_reducible repeat (first | refine blk_drewN ?_ _ | refine blk_drew ?_ | refine blk_alloc ?_ _)); refine blk_put (cs := #[.int .i64 0, .int .i64 0, .slice none 0 0]) ?_ 2 _ rfl; (with_reducible repeat (first | refine blk_drewN ?_ _ | refine blk_drew ?_ | refine blk_alloc ?_ _)); refine blk_put (cs := #[.int .i64 0, .int .i64 0, .slice none 0 0]) ?_ 1 _ rfl; (with_reducible repeat (first | refine blk_drewN ?_ _ | refine blk_drew ?_ | refine blk_alloc ?_ _)); refine blk_put (cs := #[.int .i64 0, .int .i64 0, .slice none 0 0]) ?_ 0 _ rfl; (with_reducible repeat (first | refine blk_drewN ?_ _ | refine blk_drew ?_ | refine blk_alloc ?_ _)); exact BK435.out) Try.underlying26 rfl kr_) rfl ?_
    exact ⟨_, mc332, mc246, mc132⟩
   replace c26 := Bool.eq_false_iff.mpr c26
   subst c26
   rw [if_neg (show ¬ (false = true) by decide)] at H
   obtain ⟨t441, A300, H⟩ := oB_ H
   have A30 := A_ A300
   clear A300
   obtain ⟨⟨t442, t443, t444, t447⟩, A310, H⟩ := oB_ H
   have A31 := A_ A310
   clear A310
   simp only [Option.some.injEq, Prod.mk.injEq] at H
   obtain ⟨rfl, rfl, rfl, rfl⟩ := H
   have hnb32 := NB433_434.out
   have hnc32 := NB434_433.out
   have hnb33 := NB433_435.out
   have hnc33 := NB435_433.out
   have hcz34_0 : wc.cell? ⟨gb433, 0, none⟩ = some (.int .i64 a0_0) := bc_ BK433 0 rfl
   have hcz34_1 : wc.cell? ⟨gb433, 1, none⟩ = some (.int .i64 a0_1) := bc_ BK433 1 rfl
   have hcz34_2 : wc.cell? ⟨gb433, 2, none⟩ = some (.slice A0_2 l0_2.length c0_2) := bc_ BK433 2 rfl
   have hfz34_0 := blk_frozen BK433.out 0
   have hfz34_1 := blk_frozen BK433.out 1
   have hfz34_2 := blk_frozen BK433.out 2
   have hnb35 := NB434_435.out
   have hnc35 := NB435_434.out
   have hcz36_0 : wc.cell? ⟨gb434, 0, none⟩ = some (.int .i64 a1_0) := bc_ BK434 0 rfl
   have hcz36_1 : wc.cell? ⟨gb434, 1, none⟩ = some (.int .i64 a1_1) := bc_ BK434 1 rfl
   have hcz36_2 : wc.cell? ⟨gb434, 2, none⟩ = some (.slice A1_2 l1_2.length c1_2) := bc_ BK434 2 rfl
   have hfz36_0 := blk_frozen BK434.out 0
   have hfz36_1 := blk_frozen BK434.out 1
   have hfz36_2 := blk_frozen BK434.out 2
   go_wp2_with (first | ((with_reducible refine gc_ 60 rfl ?_); refine goesL_ (some 23) rfl rfl Try.func60 kr_ rfl #[.agg #[.int .i64 a0_0, .int .i64 a0_1, .slice A0_2 l0_2.length c0_2], .slice A2 l2.length c2, .func (.func 65) #[] #[.pointer (some ⟨gb434, 0, none⟩)]] rfl mc247 ?_; (with_reducible refine (impl_editedField.calls kj3 a0_0 a0_1 _ _ l0_2 _ _ l2 t441 65 #[.pointer (some ⟨gb434, 0, none⟩)] t442 t443 t444 t447 _ ?side1 ?side2 ?side3 ?side4 ?side91 ?side92 A31.out).mono ?_); (case side91 => exact enters_of Try.func65 kr_ rfl); (case side92 => exact (mk_impl_CopyRegion_1.fn a1_0 a1_1 _ _ l1_2 t441 _ (by repeat (first | exact (Kd.V_reads' HO_435002.out).2.2 | (with_reducible refine Kd.C_alloc ?_ _) | (with_reducible refine Kd.C_drewN ?_ _) | (with_reducible refine Kd.C_drew ?_))) (by exact (Kd.V_reads' HO_435002.out).2.1) A30.out gb434 mc284)); (case side1 => repeat (first | exact (Kd.V_reads' HO_434002.out).2.2 | (with_reducible refine Kd.C_alloc ?_ _) | (with_reducible refine Kd.C_drewN ?_ _) | (with_reducible refine Kd.C_drew ?_))); (case side2 => exact (Kd.V_reads' HO_434002.out).2.1); (case side3 => exact mc206); (case side4 => exact HC2.out); rintro e w38 ⟨v445, rfl, ho0, hb⟩; refine ⟨_, rfl, ?_⟩; replace HO_434002 := A_ (Kd.V_elder' (by (with_reducible repeat (first | apply Kd.V_alloc | apply Kd.V_drewN | apply Kd.V_drew)); exact HO_434002.out) (Kd.R_base ho0) hb); replace HO_435002 := A_ (Kd.V_elder' (by (with_reducible repeat (first | apply Kd.V_alloc | apply Kd.V_drewN | apply Kd.V_drew)); exact HO_435002.out) (Kd.R_base ho0) hb); have HO446 := A_ (Kd.R_lower (Kd.R_newM (M := fun k_ => (w.heap.size ≤ k_)) ho0 (below_size mc132) (fun k_ h_ => h_)) (below_size mc132)); replace BK433 := A_ (blk_below mc283 hb); replace BK434 := A_ (blk_below mc284 hb); replace BK435 := A_ (blk_below mc285 hb); replace HB := A_ (below_step mc132 hb); (try clear hb); (try clear ho0); have hcz39_0 : w38.cell? ⟨gb435, 0, none⟩ = some (.int .i64 0) := bc_ BK435 0 rfl; have hcz39_1 : w38.cell? ⟨gb435, 1, none⟩ = some (.int .i64 0) := bc_ BK435 1 rfl; have hcz39_2 : w38.cell? ⟨gb435, 2, none⟩ = some (.slice none 0 0) := bc_ BK435 2 rfl; have hfz39_0 := blk_frozen BK435.out 0; have hfz39_1 := blk_frozen BK435.out 1; have hfz39_2 := blk_frozen BK435.out 2; obtain ⟨Ao40, co40, eo40⟩ := Kd.R_slice HO446.out; subst eo40))
   refine bodyPost_ret (results_ct rfl _ _ gb435 26 #[.int .i64 t442, .int .i64 t443, .slice Ao40 t444.length co40] (0, 0) _ rfl (by (with_reducible repeat (first | refine blk_drewN ?_ _ | refine blk_drew ?_ | refine blk_alloc ?_ _)); refine blk_put (cs := #[.int .i64 t442, .int .i64 t443, .slice none 0 0]) ?_ 2 _ rfl; (with_reducible repeat (first | refine blk_drewN ?_ _ | refine blk_drew ?_ | refine blk_alloc ?_ _)); refine blk_put (cs := #[.int .i64 t442, .int .i64 0, .slice none 0 0]) ?_ 1 _ rfl; (with_reducible repeat (first | refine blk_drewN ?_ _ | refine blk_drew ?_ | refine blk_alloc ?_ _)); refine blk_put (cs := #[.int .i64 0, .int .i64 0, .slice none 0 0]) ?_ 0 _ rfl; (with_reducible repeat (first | refine blk_drewN ?_ _ | refine blk_drew ?_ | refine blk_alloc ?_ _)); exact BK435.out) Try.underlying26 rfl kr_) rfl ?_
   exact ⟨_, mc332, by (with_reducible repeat (first | apply Kd.R_alloc | apply Kd.R_drewN | apply Kd.R_drew)); exact Kd.R_mono (Kd.R_far (p := ⟨gb435, 2, none⟩) (Kd.R_far (p := ⟨gb435, 1, none⟩) (Kd.R_far (p := ⟨gb435, 0, none⟩) (Kd.R_types HO446.out BK435.out (by decide)) (fun _ hk => hk.2) (.int .i64 t442)) (fun _ hk => hk.2) (.int .i64 t443)) (fun _ hk => hk.2) (.slice Ao40 t444.length co40)) (fun _ hk => hk.1.1), mc132⟩

end Go.Proofs.Ytdmkbfjipgaloaa.P
