-- Made by pp.py of this session out of the kit's print and of contracts proved by hand; Lean checks it.
import Derived.Test.YtdmkbfjipgaloaaMc
import Derived.Test.YtdmkbfjipgaloaaPx0
import Derived.Test.YtdmkbfjipgaloaaPx6
namespace Go.Proofs.Ytdmkbfjipgaloaa.P
open Go.RowKit Go.Proofs.YtdmkbfjipgaloaaW.PrintWords Go.Proofs.YtdmkbfjipgaloaaW.PrintLast Go.Proofs.YtdmkbfjipgaloaaW.PrintMore
attribute [local go_sem] max2_int min2_int max_two min_two max_three min_three max_four min_four   -- for this text's walks alone
set_option linter.unusedVariables false
set_option linter.unusedSimpArgs false

/-! ### spec_l4Checked: function 67 -/
def spec_l4Checked.f (k : Nat) (a0_0 : Int) (a0_1 : Int) (l0_2 : List Int) (a1 : Bool) : Option (Int × Int × List Int × Bool) := if a1 = true then ((spec_l2Good.f k a0_0 a0_1 l0_2).bind fun t450 => (if t450 = true then (some (a0_0, a0_1, l0_2, true)) else (some (0, 0, ([] : List Int), false)))) else (some (0, 0, ([] : List Int), false))
set_option maxHeartbeats 8000000 in
set_option maxRecDepth 100000 in
theorem spec_l4Checked.calls (k : Nat) (a0_0 : Int) (a0_1 : Int) (P0_2_ : Nat → Prop) (u9000_ : Value) (l0_2 : List Int) (a1 : Bool) (r1 : Int) (r2 : Int) (r3 : List Int) (r4 : Bool) (w0 w : World) (hB : Below w0.heap.size w0 w) (ho0_2 : Kd.R (Kd.int .i64) 3 w w0.heap.size P0_2_ u9000_ l0_2) (h : spec_l4Checked.f k a0_0 a0_1 l0_2 a1 = some (r1, r2, r3, r4)) :
  Calls Try.prog 67 #[.agg #[.int .i64 a0_0, .int .i64 a0_1, u9000_], .bool a1] w fun e w' => ∃ v2_ : Value, e = .returned (.tuple #[.agg #[.int .i64 r1, .int .i64 r2, v2_], .bool r4]) ∧ Kd.R (Kd.int .i64) 3 w' w0.heap.size (fun k_ => (P0_2_ k_ ∨ w.heap.size ≤ k_)) v2_ r3 ∧ Below w0.heap.size w0 w' ∧ Kept w w' (fun k_ => P0_2_ k_) := by
 have hu26 := Try.underlying26
 have HO0_2 := A_ (show Kd.R (Kd.int .i64) 3 w w0.heap.size (fun k_ => (P0_2_ k_ ∨ w.heap.size ≤ k_)) u9000_ l0_2 from Kd.R_mono ho0_2 (fun k_ hk => (.inl hk)))
 have HK := A_ (Kept.refl w (fun k_ => P0_2_ k_))
 have HW0 := A_ hB.size
 have HB := A_ hB
 clear hB
 have H : (if a1 = true then ((spec_l2Good.f k a0_0 a0_1 l0_2).bind fun t450 => (if t450 = true then (some (a0_0, a0_1, l0_2, true)) else (some (0, 0, ([] : List Int), false)))) else (some (0, 0, ([] : List Int), false))) = some (r1, r2, r3, r4) := h
 clear h
 by_cases c3 : a1 = true
 rotate_left
 ·
  replace c3 := Bool.eq_false_iff.mpr c3
  subst c3
  rw [if_neg (show ¬ (false = true) by decide)] at H
  simp only [Option.some.injEq, Prod.mk.injEq] at H
  obtain ⟨rfl, rfl, rfl, rfl⟩ := H
  obtain ⟨Ao21, co21, eo21⟩ := Kd.R_slice HO0_2.out
  subst eo21
  go_enter Try.func67, Try.ntmps67
  go_wp2_with (first | ((with_reducible refine gd_ 2 rfl ?_); refine box_event rfl (N := 2) rfl (cs := #[.int .i64 a0_0, .int .i64 a0_1, .slice Ao21 l0_2.length co21]) (t := 26) mc353 ?_; intro gb448 hg w22 hbox hb; replace HO0_2 := A_ (Kd.R_below mc324 hb); have BK448 := A_ (hbox); have GW448 := A_ ((mc139 : w.heap.size ≤ gb448)); replace HK := A_ (Kept.below (S := (fun k_ => P0_2_ k_)) mc250 hb); have GE448 := A_ ((mc213 : w0.heap.size ≤ gb448)); replace HB := A_ (below_step mc249 hb); clear hb hbox hg) | ((with_reducible refine gd_ 4 rfl ?_); refine box_event rfl (N := 4) rfl (cs := #[.int .i64 0, .int .i64 0, .slice none 0 0]) (t := 26) mc353 ?_; intro gb449 hg w23 hbox hb; replace HO0_2 := A_ (Kd.R_below mc324 hb); have BK449 := A_ (hbox); have GW449 := A_ ((mc84 : w.heap.size ≤ gb449)); replace HK := A_ (Kept.below (S := (fun k_ => P0_2_ k_)) mc208 hb); have GE449 := A_ ((mc174 : w0.heap.size ≤ gb449)); replace HB := A_ (below_step mc227 hb); have NB448_449 := A_ ((mc237 : gb448 ≠ gb449)); have NB449_448 := A_ ((mc238 : gb449 ≠ gb448)); replace BK448 := A_ (blk_below mc286 hb); clear hb hbox hg; have hnb24 := NB449_448.out; have hnc24 := NB448_449.out; have hcz25_0 : w23.cell? ⟨gb449, 0, none⟩ = some (.int .i64 0) := bc_ BK449 0 rfl; have hcz25_1 : w23.cell? ⟨gb449, 1, none⟩ = some (.int .i64 0) := bc_ BK449 1 rfl; have hcz25_2 : w23.cell? ⟨gb449, 2, none⟩ = some (.slice none 0 0) := bc_ BK449 2 rfl; have hfz25_0 := blk_frozen BK449.out 0; have hfz25_1 := blk_frozen BK449.out 1; have hfz25_2 := blk_frozen BK449.out 2))
  refine bodyPost_ret (results_ct rfl _ _ gb449 26 #[.int .i64 0, .int .i64 0, .slice none 0 0] (0, 0) _ rfl mc4 Try.underlying26 rfl kr_) rfl ?_
  exact ⟨_, mc332, mc246, mc187, mc141⟩
 subst c3
 rw [if_pos rfl] at H
 obtain ⟨t450, A40, H⟩ := oB_ H
 have A4 := A_ A40
 clear A40
 by_cases c5 : t450 = true
 rotate_left
 ·
  replace c5 := Bool.eq_false_iff.mpr c5
  subst c5
  rw [if_neg (show ¬ (false = true) by decide)] at H
  simp only [Option.some.injEq, Prod.mk.injEq] at H
  obtain ⟨rfl, rfl, rfl, rfl⟩ := H
  obtain ⟨Ao14, co14, eo14⟩ := Kd.R_slice HO0_2.out
  subst eo14
  go_enter Try.func67, Try.ntmps67
  go_wp2_with (first | ((with_reducible refine gd_ 2 rfl ?_); refine box_event rfl (N := 2) rfl (cs := #[.int .i64 a0_0, .int .i64 a0_1, .slice Ao14 l0_2.length co14]) (t := 26) mc353 ?_; intro gb448 hg w15 hbox hb; replace HO0_2 := A_ (Kd.R_below mc324 hb); have BK448 := A_ (hbox); have GW448 := A_ ((mc139 : w.heap.size ≤ gb448)); replace HK := A_ (Kept.below (S := (fun k_ => P0_2_ k_)) mc250 hb); have GE448 := A_ ((mc213 : w0.heap.size ≤ gb448)); replace HB := A_ (below_step mc249 hb); clear hb hbox hg) | ((with_reducible refine gd_ 4 rfl ?_); refine box_event rfl (N := 4) rfl (cs := #[.int .i64 0, .int .i64 0, .slice none 0 0]) (t := 26) mc353 ?_; intro gb449 hg w16 hbox hb; replace HO0_2 := A_ (Kd.R_below mc324 hb); have BK449 := A_ (hbox); have GW449 := A_ ((mc84 : w.heap.size ≤ gb449)); replace HK := A_ (Kept.below (S := (fun k_ => P0_2_ k_)) mc208 hb); have GE449 := A_ ((mc174 : w0.heap.size ≤ gb449)); replace HB := A_ (below_step mc227 hb); have NB448_449 := A_ ((mc237 : gb448 ≠ gb449)); have NB449_448 := A_ ((mc238 : gb449 ≠ gb448)); replace BK448 := A_ (blk_below mc286 hb); clear hb hbox hg; have hnb17 := NB448_449.out; have hnc17 := NB449_448.out; have hcz18_0 : w16.cell? ⟨gb448, 0, none⟩ = some (.int .i64 a0_0) := bc_ BK448 0 rfl; have hcz18_1 : w16.cell? ⟨gb448, 1, none⟩ = some (.int .i64 a0_1) := bc_ BK448 1 rfl; have hcz18_2 : w16.cell? ⟨gb448, 2, none⟩ = some (.slice Ao14 l0_2.length co14) := bc_ BK448 2 rfl; have hfz18_0 := blk_frozen BK448.out 0; have hfz18_1 := blk_frozen BK448.out 1; have hfz18_2 := blk_frozen BK448.out 2) | (go_at_call 85; (with_reducible refine (spec_l2Good.calls k a0_0 a0_1 _ _ l0_2 false _ ?side1 ?side2 A4.out).mono ?_); (case side1 => exact mc204); (case side2 => exact (Kd.R_reads' HO0_2.out).2.1); rintro e w19 ⟨rfl, hb⟩; replace HO0_2 := A_ (Kd.R_below mc324 hb); replace BK448 := A_ (blk_below mc286 hb); replace BK449 := A_ (blk_below (by (with_reducible repeat (first | refine blk_drewN ?_ _ | refine blk_drew ?_ | refine blk_alloc ?_ _)); exact BK449.out) hb); replace HK := A_ (Kept.below (S := (fun k_ => P0_2_ k_)) mc141 hb); replace HB := A_ (below_step mc187 hb); (try clear hb); have hcz20_0 : w19.cell? ⟨gb449, 0, none⟩ = some (.int .i64 0) := bc_ BK449 0 rfl; have hcz20_1 : w19.cell? ⟨gb449, 1, none⟩ = some (.int .i64 0) := bc_ BK449 1 rfl; have hcz20_2 : w19.cell? ⟨gb449, 2, none⟩ = some (.slice none 0 0) := bc_ BK449 2 rfl; have hfz20_0 := blk_frozen BK449.out 0; have hfz20_1 := blk_frozen BK449.out 1; have hfz20_2 := blk_frozen BK449.out 2))
  refine bodyPost_ret (results_ct rfl _ _ gb449 26 #[.int .i64 0, .int .i64 0, .slice none 0 0] (0, 0) _ rfl mc4 Try.underlying26 rfl kr_) rfl ?_
  exact ⟨_, mc332, mc246, mc187, mc141⟩
 subst c5
 rw [if_pos rfl] at H
 simp only [Option.some.injEq, Prod.mk.injEq] at H
 obtain ⟨rfl, rfl, rfl, rfl⟩ := H
 obtain ⟨Ao6, co6, eo6⟩ := Kd.R_slice HO0_2.out
 subst eo6
 go_enter Try.func67, Try.ntmps67
 go_wp2_with (first | ((with_reducible refine gd_ 2 rfl ?_); refine box_event rfl (N := 2) rfl (cs := #[.int .i64 a0_0, .int .i64 a0_1, .slice Ao6 l0_2.length co6]) (t := 26) mc353 ?_; intro gb448 hg w7 hbox hb; replace HO0_2 := A_ (Kd.R_below mc324 hb); have BK448 := A_ (hbox); have GW448 := A_ ((mc139 : w.heap.size ≤ gb448)); replace HK := A_ (Kept.below (S := (fun k_ => P0_2_ k_)) mc250 hb); have GE448 := A_ ((mc213 : w0.heap.size ≤ gb448)); replace HB := A_ (below_step mc249 hb); clear hb hbox hg) | ((with_reducible refine gd_ 4 rfl ?_); refine box_event rfl (N := 4) rfl (cs := #[.int .i64 0, .int .i64 0, .slice none 0 0]) (t := 26) mc353 ?_; intro gb449 hg w8 hbox hb; replace HO0_2 := A_ (Kd.R_below mc324 hb); have BK449 := A_ (hbox); have GW449 := A_ ((mc84 : w.heap.size ≤ gb449)); replace HK := A_ (Kept.below (S := (fun k_ => P0_2_ k_)) mc208 hb); have GE449 := A_ ((mc174 : w0.heap.size ≤ gb449)); replace HB := A_ (below_step mc227 hb); have NB448_449 := A_ ((mc237 : gb448 ≠ gb449)); have NB449_448 := A_ ((mc238 : gb449 ≠ gb448)); replace BK448 := A_ (blk_below mc286 hb); clear hb hbox hg; have hnb9 := NB448_449.out; have hnc9 := NB449_448.out; have hcz10_0 : w8.cell? ⟨gb448, 0, none⟩ = some (.int .i64 a0_0) := bc_ BK448 0 rfl; have hcz10_1 : w8.cell? ⟨gb448, 1, none⟩ = some (.int .i64 a0_1) := bc_ BK448 1 rfl; have hcz10_2 : w8.cell? ⟨gb448, 2, none⟩ = some (.slice Ao6 l0_2.length co6) := bc_ BK448 2 rfl; have hfz10_0 := blk_frozen BK448.out 0; have hfz10_1 := blk_frozen BK448.out 1; have hfz10_2 := blk_frozen BK448.out 2) | (go_at_call 85; (with_reducible refine (spec_l2Good.calls k a0_0 a0_1 _ _ l0_2 true _ ?side1 ?side2 A4.out).mono ?_); (case side1 => exact mc204); (case side2 => exact (Kd.R_reads' HO0_2.out).2.1); rintro e w11 ⟨rfl, hb⟩; replace HO0_2 := A_ (Kd.R_below mc324 hb); replace BK448 := A_ (blk_below mc286 hb); replace BK449 := A_ (blk_below (by (with_reducible repeat (first | refine blk_drewN ?_ _ | refine blk_drew ?_ | refine blk_alloc ?_ _)); exact BK449.out) hb); replace HK := A_ (Kept.below (S := (fun k_ => P0_2_ k_)) mc141 hb); replace HB := A_ (below_step mc187 hb); (try clear hb); have hcz12_0 : w11.cell? ⟨gb448, 0, none⟩ = some (.int .i64 a0_0) := bc_ BK448 0 rfl; have hcz12_1 : w11.cell? ⟨gb448, 1, none⟩ = some (.int .i64 a0_1) := bc_ BK448 1 rfl; have hcz12_2 : w11.cell? ⟨gb448, 2, none⟩ = some (.slice Ao6 l0_2.length co6) := bc_ BK448 2 rfl; have hfz12_0 := blk_frozen BK448.out 0; have hfz12_1 := blk_frozen BK448.out 1; have hfz12_2 := blk_frozen BK448.out 2; have hcz13_0 : w11.cell? ⟨gb449, 0, none⟩ = some (.int .i64 0) := bc_ BK449 0 rfl; have hcz13_1 : w11.cell? ⟨gb449, 1, none⟩ = some (.int .i64 0) := bc_ BK449 1 rfl; have hcz13_2 : w11.cell? ⟨gb449, 2, none⟩ = some (.slice none 0 0) := bc_ BK449 2 rfl; have hfz13_0 := blk_frozen BK449.out 0; have hfz13_1 := blk_frozen BK449.out 1; have hfz13_2 := blk_frozen BK449.out 2))
 refine bodyPost_ret (results_ct rfl _ _ gb449 26 #[.int .i64 a0_0, .int .i64 a0_1, .slice Ao6 l0_2.length co6] (0, 0) _ rfl (by (with_reducible repeat (first | refine blk_drewN ?_ _ | refine blk_drew ?_ | refine blk_alloc ?_ _)); refine blk_put (cs := #[.int .i64 a0_0, .int .i64 a0_1, .slice none 0 0]) ?_ 2 _ rfl; (with_reducible repeat (first | refine blk_drewN ?_ _ | refine blk_drew ?_ | refine blk_alloc ?_ _)); refine blk_put (cs := #[.int .i64 a0_0, .int .i64 0, .slice none 0 0]) ?_ 1 _ rfl; (with_reducible repeat (first | refine blk_drewN ?_ _ | refine blk_drew ?_ | refine blk_alloc ?_ _)); refine blk_put (cs := #[.int .i64 0, .int .i64 0, .slice none 0 0]) ?_ 0 _ rfl; (with_reducible repeat (first | refine blk_drewN ?_ _ | refine blk_drew ?_ | refine blk_alloc ?_ _)); exact BK449.out) Try.underlying26 rfl kr_) rfl ?_
 exact ⟨_, mc332, by (with_reducible repeat (first | apply Kd.R_alloc | apply Kd.R_drewN | apply Kd.R_drew)); exact Kd.R_mono (Kd.R_far (p := ⟨gb449, 2, none⟩) (Kd.R_far (p := ⟨gb449, 1, none⟩) (Kd.R_far (p := ⟨gb449, 0, none⟩) (Kd.R_types HO0_2.out BK449.out (by decide)) (fun _ hk => hk.2) (.int .i64 a0_0)) (fun _ hk => hk.2) (.int .i64 a0_1)) (fun _ hk => hk.2) (.slice Ao6 l0_2.length co6)) (fun _ hk => hk.1), mc187, mc141⟩

end Go.Proofs.Ytdmkbfjipgaloaa.P
