-- Made by pp.py of this session out of the kit's print and of contracts proved by hand; Lean checks it.
import Derived.Test.YtdmkbfjipgaloaaMc
import Derived.Test.YtdmkbfjipgaloaaPx0
import Derived.Test.YtdmkbfjipgaloaaPx16
namespace Go.Proofs.Ytdmkbfjipgaloaa.P
open Go.RowKit Go.Proofs.YtdmkbfjipgaloaaW.PrintWords Go.Proofs.YtdmkbfjipgaloaaW.PrintLast Go.Proofs.YtdmkbfjipgaloaaW.PrintMore
attribute [local go_sem] max2_int min2_int max_two min_two max_three min_three max_four min_four   -- for this text's walks alone
set_option linter.unusedVariables false
set_option linter.unusedSimpArgs false

/-! ### spec_l1Cur_field: function 94 -/
mutual
def spec_l1Cur_field.l0 : Nat → Int → Int → List Int → Int → Int → Int → Int → List Int → Option (Int × Int × List Int × Int × Int)
 | 0, _, _, _, _, _, _, _, _ => none
 | k + 1, x4, x5, x1000, x1001, x1002, x310000, x310001, x310002 => if x5 < (wrap64 (x310000 * x310001)) then ((spec_l1Cur_pick.f x1000 x1001 x1002 40).bind fun bt316 => ((spec_l1Cur_one.f x1000 bt316.2.1 bt316.2.2 12).bind fun bt319 => (if bt319.1 = true then (if x310002.length < 17592186044416 then (spec_l1Cur_field.l0 k x4 (wrap64 (x5 + 1)) x1000 bt319.2.1 bt319.2.2 x310000 x310001 (x310002 ++ [(-9999)])) else (none)) else (if x310002.length < 17592186044416 then (spec_l1Cur_field.l0 k x4 (wrap64 (x5 + 1)) x1000 bt319.2.1 bt319.2.2 x310000 x310001 (x310002 ++ [wrap64 (x4 + bt316.1)])) else (none))))) else ((spec_l1Cur_one.f x1000 x1001 x1002 10).bind fun bt328 => (if bt328.1 = true then ((spec_l1Cur_pick.f x1000 bt328.2.1 bt328.2.2 (x310002.length : Int)).bind fun bt331 => ((spec_l1Cur_among.f x1000 bt331.2.1 bt331.2.2 (([9000, (-9000), 0] : List Int))).bind fun bt337 => (if 0 ≤ bt331.1 then (if bt331.1 < (x310002.length : Int) then (spec_l1Cur_field.j1 k x1000 bt337.2.1 bt337.2.2 x310000 x310001 (x310002.set (bt331.1 : Int).toNat bt337.1)) else (none)) else (none)))) else (spec_l1Cur_field.j1 k x1000 bt328.2.1 bt328.2.2 x310000 x310001 x310002)))
def spec_l1Cur_field.j1 : Nat → List Int → Int → Int → Int → Int → List Int → Option (Int × Int × List Int × Int × Int)
 | 0, _, _, _, _, _, _ => none
 | k + 1, x1000, x1001, x1002, x310000, x310001, x310002 => (spec_l1Cur_one.f x1000 x1001 x1002 24).bind fun bt341 => (if bt341.1 = true then ((spec_l2Fill.f k 8 8 3).bind fun bt344 => (some (bt344.1, bt344.2.1, bt344.2.2, bt341.2.1, bt341.2.2))) else (some (x310000, x310001, x310002, bt341.2.1, bt341.2.2)))
end
def spec_l1Cur_field.f (k : Nat) (s0_0 : List Int) (s0_1 : Int) (s0_2 : Int) : Option (Int × Int × List Int × Int × Int) := (spec_l1Cur_pick.f s0_0 s0_1 s0_2 5).bind fun bt303 => ((spec_l1Cur_pick.f s0_0 bt303.2.1 bt303.2.2 5).bind fun bt306 => ((spec_l1Cur_among.f s0_0 bt306.2.1 bt306.2.2 (([0, 10, 100, (-50)] : List Int))).bind fun bt313 => (spec_l1Cur_field.l0 k bt313.1 0 s0_0 bt313.2.1 bt313.2.2 (wrap64 (1 + bt303.1)) (wrap64 (1 + bt306.1)) ([] : List Int))))
def spec_l1Cur_field.T11 : Bool × List (List Nat × List Nat) := (true, [([], []), ([0], [0]), ([], []), ([], []), ([3], [3]), ([4], [4]), ([2, 5], [2, 5]), ([], []), ([], []), ([7, 8, 6], [7, 8]), ([1, 6, 0, 1, 2, 3, 4, 5, 6, 7, 8, 9], [1, 6]), ([10, 9, 9, 0, 1, 2, 3, 4, 5, 6, 7, 8, 9], [9, 10])])
def spec_l1Cur_field.B11 : List Nat := [0, 1, 0, 0, 8, 24, 60, 0, 0, 508, 1023, 2047]
theorem spec_l1Cur_field.tab11 : rtab .any (opsOf Try.f94 11) = spec_l1Cur_field.T11 := by kernel_rfl
theorem spec_l1Cur_field.bits11 : waitsOk spec_l1Cur_field.T11.2 spec_l1Cur_field.B11 = true := by kernel_rfl
set_option maxHeartbeats 8000000 in
set_option maxRecDepth 100000 in
theorem spec_l1Cur_field.calls (k : Nat) (g : Nat) (s0_0 : List Int) (s0_1 : Int) (s0_2 : Int) (r1 : Int) (r2 : Int) (r3 : List Int) (r4 : Int) (r5 : Int) (w0 w : World) (hI : IsS61 w0 w g s0_0 s0_1 s0_2) (hB : Below w0.heap.size w0 w) (h : spec_l1Cur_field.f k s0_0 s0_1 s0_2 = some (r1, r2, r3, r4, r5)) :
  Calls Try.prog 94 #[.pointer (some ⟨g, 0, none⟩)] w fun e w' => ∃ v2_ : Value, e = .returned (.agg #[.int .i64 r1, .int .i64 r2, v2_]) ∧ Kd.R (Kd.int .i64) 3 w' w.heap.size (fun _ => True) v2_ r3 ∧ IsS61 w0 w' g s0_0 r4 r5 ∧ Below w0.heap.size w0 w' ∧ KeepBut w w' g none := by
 have hu26 := Try.underlying26
 have HI0 := A_ hI
 have HK := A_ (KeepBut.refl w g none)
 have HL := A_ hB.size
 clear hI
 have HW0 := A_ hB.size
 have HB := A_ hB
 clear hB
 have H : ((spec_l1Cur_pick.f s0_0 s0_1 s0_2 5).bind fun bt303 => ((spec_l1Cur_pick.f s0_0 bt303.2.1 bt303.2.2 5).bind fun bt306 => ((spec_l1Cur_among.f s0_0 bt306.2.1 bt306.2.2 (([0, 10, 100, (-50)] : List Int))).bind fun bt313 => (spec_l1Cur_field.l0 k bt313.1 0 s0_0 bt313.2.1 bt313.2.2 (wrap64 (1 + bt303.1)) (wrap64 (1 + bt306.1)) ([] : List Int))))) = some (r1, r2, r3, r4, r5) := h
 clear h
 obtain ⟨⟨t303, t304, t305⟩, A20, H⟩ := oB_ H
 have A2 := A_ A20
 clear A20
 obtain ⟨⟨t306, t307, t308⟩, A30, H⟩ := oB_ H
 have A3 := A_ A30
 clear A30
 obtain ⟨y310, hy310⟩ : ∃ y_ : List Int, y_ = (([0, 10, 100, (-50)] : List Int)) := ⟨_, rfl⟩
 replace H : ((spec_l1Cur_among.f s0_0 t307 t308 y310).bind fun bt313 => (spec_l1Cur_field.l0 k bt313.1 0 s0_0 bt313.2.1 bt313.2.2 (wrap64 (1 + t303)) (wrap64 (1 + t306)) ([] : List Int))) = some (r1, r2, r3, r4, r5) := by first | (rw [hy310]; with_reducible exact H) | (have H2_ := (Option.bind_some _ _).symm.trans H; rw [hy310]; with_reducible exact H2_) | (have H2_ := (Option.bind_some _ _).symm.trans H; with_reducible exact H2_) | with_reducible exact H | (rw [hy310]; exact H) | exact H
 have Ny310 := A_ hy310
 clear hy310
 obtain ⟨⟨t313, t314, t315⟩, A40, H⟩ := oB_ H
 have A4 := A_ A40
 clear A40
 have H' := A_ H
 clear H
 go_enter Try.func94, Try.ntmps94
 go_wp2_with (first | ((with_reducible refine gd_ 2 rfl ?_); refine box_event rfl (N := 2) rfl (cs := #[.int .i64 0, .int .i64 0, .slice none 0 0]) (t := 26) mc353 ?_; intro gb302 hg w5 hbox hb; replace HB := A_ (below_step mc202 hb); have BK302 := A_ (hbox); have GW302 := A_ ((mc145 : w.heap.size ≤ gb302)); have GE302 := A_ ((Nat.le_trans HW0.out (mc145 : w.heap.size ≤ gb302) : w0.heap.size ≤ gb302)); replace HK := A_ (KeepBut.trans mc245 (KeepBut.of_below hb g none) (.inl rfl)); have NB0_302 := A_ ((mc100 : g ≠ gb302)); have NB302_0 := A_ ((mc101 : gb302 ≠ g)); replace HI0 := A_ (IsS61.below mc207 hb); clear hb hbox hg) | ((with_reducible refine gc_ 79 rfl ?_); refine goesL_ (some 8) rfl rfl Try.func79 kr_ rfl #[.pointer (some ⟨g, 0, none⟩), .int .i64 5] rfl mc247 ?_; (with_reducible refine (spec_l1Cur_pick.calls g s0_0 s0_1 s0_2 5 t303 t304 t305 w0 _ ?side1 ?side2 A2.out).mono ?_); (case side1 => exact mc152); (case side2 => exact mc154); rintro e w6 ⟨rfl, hi, hb, hk⟩; refine ⟨_, rfl, ?_⟩; replace BK302 := A_ (KeepBut.blk hk (g' := gb302) (o := .cells #[.int .i64 0, .int .i64 0, .slice none 0 0] 26 (0, 0)) mc297 NB302_0.out (by simp)); replace HK := A_ (KeepBut.trans mc196 hk (.inl rfl)); replace HB := A_ (hb); replace HI0 := A_ (hi); (try clear hb)) | ((with_reducible refine gc_ 79 rfl ?_); refine goesL_ (some 11) rfl rfl Try.func79 kr_ rfl #[.pointer (some ⟨g, 0, none⟩), .int .i64 5] rfl mc247 ?_; (with_reducible refine (spec_l1Cur_pick.calls g s0_0 t304 t305 5 t306 t307 t308 w0 _ ?side1 ?side2 A3.out).mono ?_); (case side1 => exact mc152); (case side2 => exact mc154); rintro e w7 ⟨rfl, hi, hb, hk⟩; refine ⟨_, rfl, ?_⟩; replace BK302 := A_ (KeepBut.blk hk (g' := gb302) (o := .cells #[.int .i64 0, .int .i64 0, .slice none 0 0] 26 (0, 0)) mc297 NB302_0.out (by simp)); replace HK := A_ (KeepBut.trans mc196 hk (.inl rfl)); replace HB := A_ (hb); replace HI0 := A_ (hi); (try clear hb)) | ((with_reducible refine gd_ 3 rfl ?_); refine box_event rfl (N := 3) rfl (cs := #[.int .i64 0, .int .i64 0, .slice none 0 0]) (t := 26) mc353 ?_; intro gb309 hg w8 hbox hb; replace HB := A_ (below_step (by repeat (first | (with_reducible first | exact HB.out | apply below_alloc | apply pw_below_drewN | apply below_drew1 | refine below_set ?_ (IsS61.ge HI0.out) | refine below_set ?_ GE302.out) | exact HB.out)) hb); have BK309 := A_ (hbox); have GW309 := A_ ((mc106 : w.heap.size ≤ gb309)); have GE309 := A_ ((Nat.le_trans HW0.out (mc106 : w.heap.size ≤ gb309) : w0.heap.size ≤ gb309)); replace HK := A_ (KeepBut.trans mc196 (KeepBut.of_below hb g none) (.inl rfl)); have NB302_309 := A_ ((by rw [hg]; exact Nat.ne_of_lt (blk_lt mc297) : gb302 ≠ gb309)); have NB309_302 := A_ ((by rw [hg]; exact Nat.ne_of_gt (blk_lt mc297) : gb309 ≠ gb302)); replace BK302 := A_ (blk_below mc297 hb); have NB0_309 := A_ ((by rw [hg]; exact Nat.ne_of_lt (IsS61.lt (show IsS61 w0 _ g s0_0 t307 t308 from by repeat (first | (with_reducible first | exact HI0.out | apply IsS61.alloc | apply IsS61.drewN | apply IsS61.drew | apply IsS61.set_1 | apply IsS61.set_2 | refine IsS61.far ?_ NB0_302.out _) | exact HI0.out))) : g ≠ gb309)); have NB309_0 := A_ ((by rw [hg]; exact Nat.ne_of_gt (IsS61.lt (show IsS61 w0 _ g s0_0 t307 t308 from by repeat (first | (with_reducible first | exact HI0.out | apply IsS61.alloc | apply IsS61.drewN | apply IsS61.drew | apply IsS61.set_1 | apply IsS61.set_2 | refine IsS61.far ?_ NB0_302.out _) | exact HI0.out))) : gb309 ≠ g)); replace HI0 := A_ (IsS61.below (by repeat (first | (with_reducible first | exact HI0.out | apply IsS61.alloc | apply IsS61.drewN | apply IsS61.drew | apply IsS61.set_1 | apply IsS61.set_2 | refine IsS61.far ?_ NB0_302.out _) | exact HI0.out)) hb); clear hb hbox hg; have hnb9 := NB309_302.out; have hnc9 := NB302_309.out; have hnb10 := NB309_0.out; have hnc10 := NB0_309.out; have hcz11_0 : w8.cell? ⟨gb309, 0, none⟩ = some (.int .i64 0) := bc_ BK309 0 rfl; have hcz11_1 : w8.cell? ⟨gb309, 1, none⟩ = some (.int .i64 0) := bc_ BK309 1 rfl; have hcz11_2 : w8.cell? ⟨gb309, 2, none⟩ = some (.slice none 0 0) := bc_ BK309 2 rfl; have hfz11_0 := blk_frozen BK309.out 0; have hfz11_1 := blk_frozen BK309.out 1; have hfz11_2 := blk_frozen BK309.out 2) | ((with_reducible refine gd_ 15 rfl ?_); refine Kd.R_lit (Kd.int .i64) _ 3 ?hg (N := 15) ?hd (xs := ([0, 10, 100, (-50)] : List Int)) (inner := [.int .i64 0, .int .i64 10, .int .i64 100, .int .i64 (-50)]) (ok := fun _ => True) (okp := fun _ => True) ?hr ?hp (fun _ hk => hk) trivial (Below.refl _ _) (Nat.le_refl _) (by simp) ?_; (case hd => rfl); (case hg => rfl); (case hr => exact mc353); (case hp => exact (Reps.one (show Kd.M (Kd.int .i64) _ _ _ 0 [.int .i64 0] from rfl) (Reps.one (show Kd.M (Kd.int .i64) _ _ _ 10 [.int .i64 10] from rfl) (Reps.one (show Kd.M (Kd.int .i64) _ _ _ 100 [.int .i64 100] from rfl) (Reps.one (show Kd.M (Kd.int .i64) _ _ _ (-50) [.int .i64 (-50)] from rfl) (Reps.none _ _)))))); intro v311 w12 ho13 hb hg_ hnew_; clear hg_ hnew_; (first | rw [← Ny310.out] at ho13 | (simp only [Int.reduceToNat] at ho13; rw [← Ny310.out] at ho13)); have HO312 := A_ (Kd.R_lower ho13 (keep_size (w := w) (g := g) (row := none) mc142)); replace BK302 := A_ (blk_below (g := gb302) (o := .cells #[.int .i64 0, .int .i64 0, .slice none 0 0] 26 (0, 0)) (by (with_reducible repeat (first | refine blk_drewN ?_ _ | refine blk_drew ?_ | refine blk_alloc ?_ _)); refine blk_far ?_ NB302_309.out _; (with_reducible repeat (first | refine blk_drewN ?_ _ | refine blk_drew ?_ | refine blk_alloc ?_ _)); refine blk_far ?_ NB302_309.out _; (with_reducible repeat (first | refine blk_drewN ?_ _ | refine blk_drew ?_ | refine blk_alloc ?_ _)); refine blk_far ?_ NB302_309.out _; (with_reducible repeat (first | refine blk_drewN ?_ _ | refine blk_drew ?_ | refine blk_alloc ?_ _)); exact BK302.out) hb); replace BK309 := A_ (blk_below (g := gb309) (o := .cells #[.int .i64 (wrap64 (1 + t303)), .int .i64 (wrap64 (1 + t306)), .slice none 0 0] 26 (0, 0)) (by (with_reducible repeat (first | refine blk_drewN ?_ _ | refine blk_drew ?_ | refine blk_alloc ?_ _)); refine blk_put (cs := #[.int .i64 (wrap64 (1 + t303)), .int .i64 (wrap64 (1 + t306)), .slice none 0 0]) ?_ 2 _ rfl; (with_reducible repeat (first | refine blk_drewN ?_ _ | refine blk_drew ?_ | refine blk_alloc ?_ _)); refine blk_put (cs := #[.int .i64 (wrap64 (1 + t303)), .int .i64 0, .slice none 0 0]) ?_ 1 _ rfl; (with_reducible repeat (first | refine blk_drewN ?_ _ | refine blk_drew ?_ | refine blk_alloc ?_ _)); refine blk_put (cs := #[.int .i64 0, .int .i64 0, .slice none 0 0]) ?_ 0 _ rfl; (with_reducible repeat (first | refine blk_drewN ?_ _ | refine blk_drew ?_ | refine blk_alloc ?_ _)); exact BK309.out) hb); replace HK := A_ (KeepBut.trans mc142 (KeepBut.of_below hb g none) (.inl rfl)); replace HB := A_ (below_step mc118 hb); replace HI0 := A_ (IsS61.below (show IsS61 w0 (((w8.setCell ⟨gb309, 0, none⟩ (.int .i64 (wrap64 (1 + t303)))).setCell ⟨gb309, 1, none⟩ (.int .i64 (wrap64 (1 + t306)))).setCell ⟨gb309, 2, none⟩ (.slice none 0 0)) g s0_0 t307 t308 from by repeat (first | (with_reducible first | exact HI0.out | apply IsS61.alloc | apply IsS61.drewN | apply IsS61.drew | apply IsS61.set_1 | apply IsS61.set_2 | refine IsS61.far ?_ NB0_302.out _ | refine IsS61.far ?_ NB0_309.out _) | exact HI0.out)) hb); clear hb ho13; obtain ⟨Ao14, co14, eo14⟩ := Kd.R_slice HO312.out; subst eo14) | ((with_reducible refine gc_ 43 rfl ?_); refine goesL_ (some 16) rfl rfl Try.func43 kr_ rfl #[.pointer (some ⟨g, 0, none⟩), .slice Ao14 y310.length co14] rfl mc247 ?_; (with_reducible refine (spec_l1Cur_among.calls g s0_0 t307 t308 _ _ y310 t313 t314 t315 w0 _ ?side1 ?side2 ?side3 ?side4 ?side5 A4.out).mono ?_); (case side1 => exact mc109); (case side2 => exact mc118); (case side3 => repeat (first | exact (Kd.R_reads' HO312.out).2.2 | (with_reducible refine Kd.C_alloc ?_ _) | (with_reducible refine Kd.C_drewN ?_ _) | (with_reducible refine Kd.C_drew ?_))); (case side4 => exact (Kd.R_reads' HO312.out).2.1); (case side5 => exact far_slice (IsS61.own_ne HI0.out HO312.out (by decide))); rintro e w15 ⟨rfl, hi, hb, hk⟩; refine ⟨_, rfl, ?_⟩; replace BK302 := A_ (KeepBut.blk hk (g' := gb302) (o := .cells #[.int .i64 0, .int .i64 0, .slice none 0 0] 26 (0, 0)) mc297 NB302_0.out (by simp)); replace BK309 := A_ (KeepBut.blk hk (g' := gb309) (o := .cells #[.int .i64 (wrap64 (1 + t303)), .int .i64 (wrap64 (1 + t306)), .slice none 0 0] 26 (0, 0)) mc298 NB309_0.out (by simp)); replace HO312 := A_ (Kd.R_mono (Kd.R_keep (IsS61.apart (show IsS61 w0 _ g s0_0 t307 t308 from by repeat (first | (with_reducible first | exact HI0.out | apply IsS61.alloc | apply IsS61.drewN | apply IsS61.drew | apply IsS61.set_1 | apply IsS61.set_2 | refine IsS61.far ?_ NB0_302.out _ | refine IsS61.far ?_ NB0_309.out _) | exact HI0.out)) (by (with_reducible repeat (first | apply Kd.R_alloc | apply Kd.R_drewN | apply Kd.R_drew)); exact HO312.out) (by decide)) hk (fun _ h => h.2)) (fun _ h => h.1)); replace HK := A_ (KeepBut.trans mc142 hk (.inl rfl)); replace HB := A_ (hb); replace HI0 := A_ (hi); (try clear hb)))
 go_loopg [5] k (fun kq v5 w' => ∃ (x5_1 : Int) (x1001_1 : Int) (x1002_1 : Int) (x310002_1 : List Int) (u310002 : Value), v5 = .int .i64 x5_1 ∧ Aside0 (spec_l1Cur_field.l0 kq t313 x5_1 s0_0 x1001_1 x1002_1 (wrap64 (1 + t303)) (wrap64 (1 + t306)) x310002_1 = some (r1, r2, r3, r4, r5)) ∧ Aside0 (kq ≤ k) ∧ Aside0 (Kd.R (Kd.int .i64) 3 w' w.heap.size (fun _ => True) u310002 x310002_1) ∧ Aside0 (w'.heap[gb302]? = some (.cells #[.int .i64 0, .int .i64 0, (.slice none 0 0)] 26 (0, 0))) ∧ Aside0 (w'.heap[gb309]? = some (.cells #[.int .i64 (wrap64 (1 + t303)), .int .i64 (wrap64 (1 + t306)), u310002] 26 (0, 0))) ∧ Aside0 (IsS61 w0 w' g s0_0 x1001_1 x1002_1) ∧ Aside0 (KeepBut w w' g none) ∧ Aside0 (Below w0.heap.size w0 w'))
 case atStart => exact ⟨(0), (t314), (t315), (([] : List Int)), (.slice none 0 0), mc352, H', ⟨Nat.le_refl _⟩, ⟨mc246⟩, ⟨mc297⟩, ⟨mc298⟩, ⟨mc109⟩, ⟨mc142⟩, ⟨mc118⟩⟩
 case round =>
  clear H'
  try clear p2
  try clear p6
  obtain ⟨x5_1, x1001_1, x1002_1, x310002_1, u310002, rfl, HA, HK1, HO_310002, BK302, BK309, HI0, HK, HB⟩ := hrel
  cases gk with
  | zero => exact absurd HA.out (by simp [spec_l1Cur_field.l0])
  | succ k1 =>
   have H := HA.out
   clear HA
   simp only [spec_l1Cur_field.l0] at H
   by_cases c16 : x5_1 < (wrap64 ((wrap64 (1 + t303)) * (wrap64 (1 + t306))))
   ·
    rw [if_pos c16] at H
    have c16b0 : decide (x5_1 < (wrap64 ((wrap64 (1 + t303)) * (wrap64 (1 + t306))))) = true := decide_eq_true c16
    clear c16
    obtain ⟨⟨t316, t317, t318⟩, A170, H⟩ := oB_ H
    have A17 := A_ A170
    clear A170
    obtain ⟨⟨t319, t320, t321⟩, A180, H⟩ := oB_ H
    have A18 := A_ A180
    clear A180
    by_cases c19 : t319 = true
    ·
     subst c19
     rw [if_pos rfl] at H
     by_cases c20 : x310002_1.length < 17592186044416
     rotate_left
     ·
      rw [if_neg c20] at H
      exact absurd H (by simp)
     rw [if_pos c20] at H
     have LMc20 := A_ c20
     clear c20
     obtain ⟨y322, hy322⟩ : ∃ y_ : List Int, y_ = (x310002_1 ++ [(-9999)]) := ⟨_, rfl⟩
     replace H : (spec_l1Cur_field.l0 k1 t313 (wrap64 (x5_1 + 1)) s0_0 t320 t321 (wrap64 (1 + t303)) (wrap64 (1 + t306)) y322) = some (r1, r2, r3, r4, r5) := by first | (rw [hy322]; with_reducible exact H) | (have H2_ := (Option.bind_some _ _).symm.trans H; rw [hy322]; with_reducible exact H2_) | (have H2_ := (Option.bind_some _ _).symm.trans H; with_reducible exact H2_) | with_reducible exact H | (rw [hy322]; exact H) | exact H
     have Ny322 := A_ hy322
     clear hy322
     have H' := A_ H
     clear H
     have hnb21 := NB309_302.out
     have hnc21 := NB302_309.out
     have hnb22 := NB309_0.out
     have hnc22 := NB0_309.out
     have hcz23_0 : wr.cell? ⟨gb309, 0, none⟩ = some (.int .i64 (wrap64 (1 + t303))) := bc_ BK309 0 rfl
     have hcz23_1 : wr.cell? ⟨gb309, 1, none⟩ = some (.int .i64 (wrap64 (1 + t306))) := bc_ BK309 1 rfl
     have hcz23_2 : wr.cell? ⟨gb309, 2, none⟩ = some (u310002) := bc_ BK309 2 rfl
     have hfz23_0 := blk_frozen BK309.out 0
     have hfz23_1 := blk_frozen BK309.out 1
     have hfz23_2 := blk_frozen BK309.out 2
     go_wp2_with (first | ((with_reducible refine gc_ 79 rfl ?_); refine goesL_ (some 28) rfl rfl Try.func79 kr_ rfl #[.pointer (some ⟨g, 0, none⟩), .int .i64 40] rfl mc247 ?_; (with_reducible refine (spec_l1Cur_pick.calls g s0_0 x1001_1 x1002_1 40 t316 t317 t318 w0 _ ?side1 ?side2 A17.out).mono ?_); (case side1 => exact mc109); (case side2 => exact mc118); rintro e w24 ⟨rfl, hi, hb, hk⟩; refine ⟨_, rfl, ?_⟩; replace HO_310002 := A_ (Kd.R_mono (Kd.R_keep (IsS61.apart (show IsS61 w0 _ g s0_0 x1001_1 x1002_1 from by repeat (first | (with_reducible first | exact HI0.out | apply IsS61.alloc | apply IsS61.drewN | apply IsS61.drew | apply IsS61.set_1 | apply IsS61.set_2 | refine IsS61.far ?_ NB0_302.out _ | refine IsS61.far ?_ NB0_309.out _) | exact HI0.out)) mc310 (by decide)) hk (fun _ h => h.2)) (fun _ h => h.1)); replace BK302 := A_ (KeepBut.blk hk (g' := gb302) (o := .cells #[.int .i64 0, .int .i64 0, .slice none 0 0] 26 (0, 0)) mc297 NB302_0.out (by simp)); replace BK309 := A_ (KeepBut.blk hk (g' := gb309) (o := .cells #[.int .i64 (wrap64 (1 + t303)), .int .i64 (wrap64 (1 + t306)), u310002] 26 (0, 0)) mc298 NB309_0.out (by simp)); replace HK := A_ (KeepBut.trans mc142 hk (.inl rfl)); replace HB := A_ (hb); replace HI0 := A_ (hi); (try clear hb)) | ((with_reducible refine gc_ 78 rfl ?_); refine goesL_ (some 31) rfl rfl Try.func78 kr_ rfl #[.pointer (some ⟨g, 0, none⟩), .int .i64 12] rfl mc247 ?_; (with_reducible refine (spec_l1Cur_one.calls g s0_0 t317 t318 12 true t320 t321 w0 _ ?side1 ?side2 A18.out).mono ?_); (case side1 => exact mc109); (case side2 => exact mc118); rintro e w25 ⟨rfl, hi, hb, hk⟩; refine ⟨_, rfl, ?_⟩; replace HO_310002 := A_ (Kd.R_mono (Kd.R_keep (IsS61.apart (show IsS61 w0 _ g s0_0 t317 t318 from by repeat (first | (with_reducible first | exact HI0.out | apply IsS61.alloc | apply IsS61.drewN | apply IsS61.drew | apply IsS61.set_1 | apply IsS61.set_2 | refine IsS61.far ?_ NB0_302.out _ | refine IsS61.far ?_ NB0_309.out _) | exact HI0.out)) mc310 (by decide)) hk (fun _ h => h.2)) (fun _ h => h.1)); replace BK302 := A_ (KeepBut.blk hk (g' := gb302) (o := .cells #[.int .i64 0, .int .i64 0, .slice none 0 0] 26 (0, 0)) mc297 NB302_0.out (by simp)); replace BK309 := A_ (KeepBut.blk hk (g' := gb309) (o := .cells #[.int .i64 (wrap64 (1 + t303)), .int .i64 (wrap64 (1 + t306)), u310002] 26 (0, 0)) mc298 NB309_0.out (by simp)); replace HK := A_ (KeepBut.trans mc142 hk (.inl rfl)); replace HB := A_ (hb); replace HI0 := A_ (hi); (try clear hb); have hcz26_0 : w25.cell? ⟨gb309, 0, none⟩ = some (.int .i64 (wrap64 (1 + t303))) := bc_ BK309 0 rfl; have hcz26_1 : w25.cell? ⟨gb309, 1, none⟩ = some (.int .i64 (wrap64 (1 + t306))) := bc_ BK309 1 rfl; have hcz26_2 : w25.cell? ⟨gb309, 2, none⟩ = some (u310002) := bc_ BK309 2 rfl; have hfz26_0 := blk_frozen BK309.out 0; have hfz26_1 := blk_frozen BK309.out 1; have hfz26_2 := blk_frozen BK309.out 2) | ((with_reducible refine gate_builtin (b := .append) (xs := #[.tmp 33, .tmp 35]) rfl ?_); at_builtin; refine Kd.R_append (Kd.int .i64) w.heap.size rfl (.tmp 33) (.tmp 35) 24 3 (.int .i64 0) 8 rfl Try.underlying24 info3 rfl (by decide) (by omega) u310002 x310002_1 (-9999) [.int .i64 (-9999)] (fun _ => True) (fun _ => False) rfl rfl ?aP (fun _ hk => hk.elim) ?aF ?aO (Below.refl _ _) ?aS ?aL ?_; (case aP => exact rfl); (case aF => exact (fun _ _ => trivial)); (case aO => exact mc310); (case aS => exact (keep_size (w := w) (g := g) (row := none) mc142)); (case aL => have := LMc20.out; omega); intro v323 w27 ho hb hg hat; rw [← Ny322.out] at ho; replace BK302 := A_ (blk_grown (g := gb302) (o := .cells #[.int .i64 0, .int .i64 0, .slice none 0 0] 26 (0, 0)) mc297 hg (Kd.R_ne HO_310002.out BK302.out (by decide))); replace BK309 := A_ (blk_grown (g := gb309) (o := .cells #[.int .i64 (wrap64 (1 + t303)), .int .i64 (wrap64 (1 + t306)), u310002] 26 (0, 0)) mc298 hg (Kd.R_ne HO_310002.out BK309.out (by decide))); replace HB := A_ (below_weaken mc118 HL.out hb); replace HI0 := A_ (IsS61.grown mc109 hg (IsS61.own_ne HI0.out HO_310002.out (by decide))); replace HK := A_ (KeepBut.trans mc142 (KeepBut.of_grown hg g) (Kd.R_base2 HO_310002.out)); have HO324 := A_ (ho); clear HO_310002; clear ho hb hg hat; obtain ⟨Ao28, co28, eo28⟩ := Kd.R_slice HO324.out; subst eo28; have hcz29_0 : w27.cell? ⟨gb309, 0, none⟩ = some (.int .i64 (wrap64 (1 + t303))) := bc_ BK309 0 rfl; have hcz29_1 : w27.cell? ⟨gb309, 1, none⟩ = some (.int .i64 (wrap64 (1 + t306))) := bc_ BK309 1 rfl; have hcz29_2 : w27.cell? ⟨gb309, 2, none⟩ = some (u310002) := bc_ BK309 2 rfl; have hfz29_0 := blk_frozen BK309.out 0; have hfz29_1 := blk_frozen BK309.out 1; have hfz29_2 := blk_frozen BK309.out 2))
     go_roundg k1
     case measure => have := HK1.out; omega
     case rel => exact ⟨(wrap64 (x5_1 + 1)), (t320), (t321), (y322), (.slice Ao28 y322.length co28), mc352, H', ⟨mc356⟩, ⟨by (with_reducible repeat (first | apply Kd.R_alloc | apply Kd.R_drewN | apply Kd.R_drew)); exact Kd.R_mono (Kd.R_far (p := ⟨gb309, 2, none⟩) (Kd.R_types HO324.out BK309.out (by decide)) (fun _ hk => hk.2) (.slice Ao28 y322.length co28)) (fun _ hk => trivial)⟩, ⟨mc99⟩, ⟨mc72⟩, ⟨mc109⟩, ⟨mc142⟩, ⟨mc118⟩⟩
    replace c19 := Bool.eq_false_iff.mpr c19
    subst c19
    rw [if_neg (show ¬ (false = true) by decide)] at H
    by_cases c30 : x310002_1.length < 17592186044416
    rotate_left
    ·
     rw [if_neg c30] at H
     exact absurd H (by simp)
    rw [if_pos c30] at H
    have LMc30 := A_ c30
    clear c30
    obtain ⟨y325, hy325⟩ : ∃ y_ : List Int, y_ = (x310002_1 ++ [wrap64 (t313 + t316)]) := ⟨_, rfl⟩
    replace H : (spec_l1Cur_field.l0 k1 t313 (wrap64 (x5_1 + 1)) s0_0 t320 t321 (wrap64 (1 + t303)) (wrap64 (1 + t306)) y325) = some (r1, r2, r3, r4, r5) := by first | (rw [hy325]; with_reducible exact H) | (have H2_ := (Option.bind_some _ _).symm.trans H; rw [hy325]; with_reducible exact H2_) | (have H2_ := (Option.bind_some _ _).symm.trans H; with_reducible exact H2_) | with_reducible exact H | (rw [hy325]; exact H) | exact H
    have Ny325 := A_ hy325
    clear hy325
    have H' := A_ H
    clear H
    have hnb31 := NB309_302.out
    have hnc31 := NB302_309.out
    have hnb32 := NB309_0.out
    have hnc32 := NB0_309.out
    have hcz33_0 : wr.cell? ⟨gb309, 0, none⟩ = some (.int .i64 (wrap64 (1 + t303))) := bc_ BK309 0 rfl
    have hcz33_1 : wr.cell? ⟨gb309, 1, none⟩ = some (.int .i64 (wrap64 (1 + t306))) := bc_ BK309 1 rfl
    have hcz33_2 : wr.cell? ⟨gb309, 2, none⟩ = some (u310002) := bc_ BK309 2 rfl
    have hfz33_0 := blk_frozen BK309.out 0
    have hfz33_1 := blk_frozen BK309.out 1
    have hfz33_2 := blk_frozen BK309.out 2
    go_wp2_with (first | ((with_reducible refine gc_ 79 rfl ?_); refine goesL_ (some 28) rfl rfl Try.func79 kr_ rfl #[.pointer (some ⟨g, 0, none⟩), .int .i64 40] rfl mc247 ?_; (with_reducible refine (spec_l1Cur_pick.calls g s0_0 x1001_1 x1002_1 40 t316 t317 t318 w0 _ ?side1 ?side2 A17.out).mono ?_); (case side1 => exact mc109); (case side2 => exact mc118); rintro e w34 ⟨rfl, hi, hb, hk⟩; refine ⟨_, rfl, ?_⟩; replace HO_310002 := A_ (Kd.R_mono (Kd.R_keep (IsS61.apart (show IsS61 w0 _ g s0_0 x1001_1 x1002_1 from by repeat (first | (with_reducible first | exact HI0.out | apply IsS61.alloc | apply IsS61.drewN | apply IsS61.drew | apply IsS61.set_1 | apply IsS61.set_2 | refine IsS61.far ?_ NB0_302.out _ | refine IsS61.far ?_ NB0_309.out _) | exact HI0.out)) mc310 (by decide)) hk (fun _ h => h.2)) (fun _ h => h.1)); replace BK302 := A_ (KeepBut.blk hk (g' := gb302) (o := .cells #[.int .i64 0, .int .i64 0, .slice none 0 0] 26 (0, 0)) mc297 NB302_0.out (by simp)); replace BK309 := A_ (KeepBut.blk hk (g' := gb309) (o := .cells #[.int .i64 (wrap64 (1 + t303)), .int .i64 (wrap64 (1 + t306)), u310002] 26 (0, 0)) mc298 NB309_0.out (by simp)); replace HK := A_ (KeepBut.trans mc142 hk (.inl rfl)); replace HB := A_ (hb); replace HI0 := A_ (hi); (try clear hb)) | ((with_reducible refine gc_ 78 rfl ?_); refine goesL_ (some 31) rfl rfl Try.func78 kr_ rfl #[.pointer (some ⟨g, 0, none⟩), .int .i64 12] rfl mc247 ?_; (with_reducible refine (spec_l1Cur_one.calls g s0_0 t317 t318 12 false t320 t321 w0 _ ?side1 ?side2 A18.out).mono ?_); (case side1 => exact mc109); (case side2 => exact mc118); rintro e w35 ⟨rfl, hi, hb, hk⟩; refine ⟨_, rfl, ?_⟩; replace HO_310002 := A_ (Kd.R_mono (Kd.R_keep (IsS61.apart (show IsS61 w0 _ g s0_0 t317 t318 from by repeat (first | (with_reducible first | exact HI0.out | apply IsS61.alloc | apply IsS61.drewN | apply IsS61.drew | apply IsS61.set_1 | apply IsS61.set_2 | refine IsS61.far ?_ NB0_302.out _ | refine IsS61.far ?_ NB0_309.out _) | exact HI0.out)) mc310 (by decide)) hk (fun _ h => h.2)) (fun _ h => h.1)); replace BK302 := A_ (KeepBut.blk hk (g' := gb302) (o := .cells #[.int .i64 0, .int .i64 0, .slice none 0 0] 26 (0, 0)) mc297 NB302_0.out (by simp)); replace BK309 := A_ (KeepBut.blk hk (g' := gb309) (o := .cells #[.int .i64 (wrap64 (1 + t303)), .int .i64 (wrap64 (1 + t306)), u310002] 26 (0, 0)) mc298 NB309_0.out (by simp)); replace HK := A_ (KeepBut.trans mc142 hk (.inl rfl)); replace HB := A_ (hb); replace HI0 := A_ (hi); (try clear hb); have hcz36_0 : w35.cell? ⟨gb309, 0, none⟩ = some (.int .i64 (wrap64 (1 + t303))) := bc_ BK309 0 rfl; have hcz36_1 : w35.cell? ⟨gb309, 1, none⟩ = some (.int .i64 (wrap64 (1 + t306))) := bc_ BK309 1 rfl; have hcz36_2 : w35.cell? ⟨gb309, 2, none⟩ = some (u310002) := bc_ BK309 2 rfl; have hfz36_0 := blk_frozen BK309.out 0; have hfz36_1 := blk_frozen BK309.out 1; have hfz36_2 := blk_frozen BK309.out 2) | ((with_reducible refine gate_builtin (b := .append) (xs := #[.tmp 33, .tmp 35]) rfl ?_); at_builtin; refine Kd.R_append (Kd.int .i64) w.heap.size rfl (.tmp 33) (.tmp 35) 24 3 (.int .i64 0) 8 rfl Try.underlying24 info3 rfl (by decide) (by omega) u310002 x310002_1 (wrap64 (t313 + t316)) [.int .i64 (wrap64 (t313 + t316))] (fun _ => True) (fun _ => False) rfl rfl ?aP (fun _ hk => hk.elim) ?aF ?aO (Below.refl _ _) ?aS ?aL ?_; (case aP => exact rfl); (case aF => exact (fun _ _ => trivial)); (case aO => exact mc310); (case aS => exact (keep_size (w := w) (g := g) (row := none) mc142)); (case aL => have := LMc30.out; omega); intro v326 w37 ho hb hg hat; rw [← Ny325.out] at ho; replace BK302 := A_ (blk_grown (g := gb302) (o := .cells #[.int .i64 0, .int .i64 0, .slice none 0 0] 26 (0, 0)) mc297 hg (Kd.R_ne HO_310002.out BK302.out (by decide))); replace BK309 := A_ (blk_grown (g := gb309) (o := .cells #[.int .i64 (wrap64 (1 + t303)), .int .i64 (wrap64 (1 + t306)), u310002] 26 (0, 0)) mc298 hg (Kd.R_ne HO_310002.out BK309.out (by decide))); replace HB := A_ (below_weaken mc118 HL.out hb); replace HI0 := A_ (IsS61.grown mc109 hg (IsS61.own_ne HI0.out HO_310002.out (by decide))); replace HK := A_ (KeepBut.trans mc142 (KeepBut.of_grown hg g) (Kd.R_base2 HO_310002.out)); have HO327 := A_ (ho); clear HO_310002; clear ho hb hg hat; obtain ⟨Ao38, co38, eo38⟩ := Kd.R_slice HO327.out; subst eo38; have hcz39_0 : w37.cell? ⟨gb309, 0, none⟩ = some (.int .i64 (wrap64 (1 + t303))) := bc_ BK309 0 rfl; have hcz39_1 : w37.cell? ⟨gb309, 1, none⟩ = some (.int .i64 (wrap64 (1 + t306))) := bc_ BK309 1 rfl; have hcz39_2 : w37.cell? ⟨gb309, 2, none⟩ = some (u310002) := bc_ BK309 2 rfl; have hfz39_0 := blk_frozen BK309.out 0; have hfz39_1 := blk_frozen BK309.out 1; have hfz39_2 := blk_frozen BK309.out 2))
    go_roundg k1
    case measure => have := HK1.out; omega
    case rel => exact ⟨(wrap64 (x5_1 + 1)), (t320), (t321), (y325), (.slice Ao38 y325.length co38), mc352, H', ⟨mc356⟩, ⟨by (with_reducible repeat (first | apply Kd.R_alloc | apply Kd.R_drewN | apply Kd.R_drew)); exact Kd.R_mono (Kd.R_far (p := ⟨gb309, 2, none⟩) (Kd.R_types HO327.out BK309.out (by decide)) (fun _ hk => hk.2) (.slice Ao38 y325.length co38)) (fun _ hk => trivial)⟩, ⟨mc99⟩, ⟨mc72⟩, ⟨mc109⟩, ⟨mc142⟩, ⟨mc118⟩⟩
   rw [if_neg c16] at H
   have c16b0 : decide (x5_1 < (wrap64 ((wrap64 (1 + t303)) * (wrap64 (1 + t306))))) = false := decide_eq_false c16
   clear c16
   obtain ⟨⟨t328, t329, t330⟩, A400, H⟩ := oB_ H
   have A40 := A_ A400
   clear A400
   have HC41 := A_ H
   clear H
   have hnb42 := NB309_302.out
   have hnc42 := NB302_309.out
   have hnb43 := NB309_0.out
   have hnc43 := NB0_309.out
   have hcz44_0 : wr.cell? ⟨gb309, 0, none⟩ = some (.int .i64 (wrap64 (1 + t303))) := bc_ BK309 0 rfl
   have hcz44_1 : wr.cell? ⟨gb309, 1, none⟩ = some (.int .i64 (wrap64 (1 + t306))) := bc_ BK309 1 rfl
   have hcz44_2 : wr.cell? ⟨gb309, 2, none⟩ = some (u310002) := bc_ BK309 2 rfl
   have hfz44_0 := blk_frozen BK309.out 0
   have hfz44_1 := blk_frozen BK309.out 1
   have hfz44_2 := blk_frozen BK309.out 2
   go_upto_if 39 with (first | ((with_reducible refine gc_ 78 rfl ?_); refine goesL_ (some 39) rfl rfl Try.func78 kr_ rfl #[.pointer (some ⟨g, 0, none⟩), .int .i64 10] rfl mc247 ?_; (with_reducible refine (spec_l1Cur_one.calls g s0_0 x1001_1 x1002_1 10 t328 t329 t330 w0 _ ?side1 ?side2 A40.out).mono ?_); (case side1 => exact mc109); (case side2 => exact mc118); rintro e w45 ⟨rfl, hi, hb, hk⟩; refine ⟨_, rfl, ?_⟩; replace HO_310002 := A_ (Kd.R_mono (Kd.R_keep (IsS61.apart (show IsS61 w0 _ g s0_0 x1001_1 x1002_1 from by repeat (first | (with_reducible first | exact HI0.out | apply IsS61.alloc | apply IsS61.drewN | apply IsS61.drew | apply IsS61.set_1 | apply IsS61.set_2 | refine IsS61.far ?_ NB0_302.out _ | refine IsS61.far ?_ NB0_309.out _) | exact HI0.out)) mc310 (by decide)) hk (fun _ h => h.2)) (fun _ h => h.1)); replace BK302 := A_ (KeepBut.blk hk (g' := gb302) (o := .cells #[.int .i64 0, .int .i64 0, .slice none 0 0] 26 (0, 0)) mc297 NB302_0.out (by simp)); replace BK309 := A_ (KeepBut.blk hk (g' := gb309) (o := .cells #[.int .i64 (wrap64 (1 + t303)), .int .i64 (wrap64 (1 + t306)), u310002] 26 (0, 0)) mc298 NB309_0.out (by simp)); replace HK := A_ (KeepBut.trans mc142 hk (.inl rfl)); replace HB := A_ (hb); replace HI0 := A_ (hi); (try clear hb)))
   (try simp only [Act.put, List.setIfInBounds_toArray, List.set_cons_zero, List.set_cons_succ])
   go_cut [] (fun wc => ∃ (kq : Nat) (x1001_40 : Int) (x1002_40 : Int) (x310002_40 : List Int) (u310002 : Value), Aside0 (spec_l1Cur_field.j1 kq s0_0 x1001_40 x1002_40 (wrap64 (1 + t303)) (wrap64 (1 + t306)) x310002_40 = some (r1, r2, r3, r4, r5)) ∧ Aside0 (kq ≤ k1) ∧ Aside0 (Kd.R (Kd.int .i64) 3 wc w.heap.size (fun _ => True) u310002 x310002_40) ∧ Aside0 (wc.heap[gb302]? = some (.cells #[.int .i64 0, .int .i64 0, (.slice none 0 0)] 26 (0, 0))) ∧ Aside0 (wc.heap[gb309]? = some (.cells #[.int .i64 (wrap64 (1 + t303)), .int .i64 (wrap64 (1 + t306)), u310002] 26 (0, 0))) ∧ Aside0 (IsS61 w0 wc g s0_0 x1001_40 x1002_40) ∧ Aside0 (KeepBut w wc g none) ∧ Aside0 (Below w0.heap.size w0 wc))
   case first =>
    have H := HC41.out
    clear HC41
    by_cases c46 : t328 = true
    rotate_left
    ·
     replace c46 := Bool.eq_false_iff.mpr c46
     subst c46
     rw [if_neg (show ¬ (false = true) by decide)] at H
     have H' := A_ H
     clear H
     go_wp2
     go_meet
     case rel => exact ⟨_, (t329), (t330), (x310002_1), (u310002), H', ⟨by have := HK1.out; first | omega | exact Nat.le_refl _⟩, ⟨by (with_reducible repeat (first | apply Kd.R_alloc | apply Kd.R_drewN | apply Kd.R_drew)); exact HO_310002.out⟩, ⟨mc297⟩, ⟨mc298⟩, ⟨mc109⟩, ⟨mc142⟩, ⟨mc118⟩⟩
    subst c46
    rw [if_pos rfl] at H
    obtain ⟨⟨t331, t332, t333⟩, A470, H⟩ := oB_ H
    have A47 := A_ A470
    clear A470
    obtain ⟨y334, hy334⟩ : ∃ y_ : List Int, y_ = (([9000, (-9000), 0] : List Int)) := ⟨_, rfl⟩
    replace H : ((spec_l1Cur_among.f s0_0 t332 t333 y334).bind fun bt337 => (if 0 ≤ t331 then (if t331 < (x310002_1.length : Int) then (spec_l1Cur_field.j1 k1 s0_0 bt337.2.1 bt337.2.2 (wrap64 (1 + t303)) (wrap64 (1 + t306)) (x310002_1.set (t331 : Int).toNat bt337.1)) else (none)) else (none))) = some (r1, r2, r3, r4, r5) := by first | (rw [hy334]; with_reducible exact H) | (have H2_ := (Option.bind_some _ _).symm.trans H; rw [hy334]; with_reducible exact H2_) | (have H2_ := (Option.bind_some _ _).symm.trans H; with_reducible exact H2_) | with_reducible exact H | (rw [hy334]; exact H) | exact H
    have Ny334 := A_ hy334
    clear hy334
    obtain ⟨⟨t337, t338, t339⟩, A480, H⟩ := oB_ H
    have A48 := A_ A480
    clear A480
    by_cases c49 : 0 ≤ t331
    rotate_left
    ·
     rw [if_neg c49] at H
     exact absurd H (by simp)
    rw [if_pos c49] at H
    have c49b0 : decide (0 ≤ t331) = true := decide_eq_true c49
    clear c49
    (first | rw [c49b0] | (simp only [i64_w, i32_w]; rw [c49b0]) | skip)
    by_cases c50 : t331 < (x310002_1.length : Int)
    rotate_left
    ·
     rw [if_neg c50] at H
     exact absurd H (by simp)
    rw [if_pos c50] at H
    have c50b0 : decide (t331 < (x310002_1.length : Int)) = true := decide_eq_true c50
    clear c50
    obtain ⟨y340, hy340⟩ : ∃ y_ : List Int, y_ = (x310002_1.set (t331 : Int).toNat t337) := ⟨_, rfl⟩
    replace H : (spec_l1Cur_field.j1 k1 s0_0 t338 t339 (wrap64 (1 + t303)) (wrap64 (1 + t306)) y340) = some (r1, r2, r3, r4, r5) := by first | (rw [hy340]; with_reducible exact H) | (have H2_ := (Option.bind_some _ _).symm.trans H; rw [hy340]; with_reducible exact H2_) | (have H2_ := (Option.bind_some _ _).symm.trans H; with_reducible exact H2_) | with_reducible exact H | (rw [hy340]; exact H) | exact H
    have Ny340 := A_ hy340
    clear hy340
    have H' := A_ H
    clear H
    try go_wp2
    replace HO_310002 := A_ (Kd.R_drew HO_310002.out)
    replace BK302 := A_ (blk_drew BK302.out)
    replace BK309 := A_ (blk_drew BK309.out)
    replace HI0 := A_ (IsS61.drew HI0.out)
    replace HK := A_ (keep_drew HK.out)
    replace HB := A_ (below_drew1 HB.out)
    obtain ⟨Ao53, co53, eo53⟩ := Kd.R_slice HO_310002.out
    (first | subst eo53 | (injection eo53 with f1_ f2_ f3_; have f4_ := f1_.symm; have f5_ := f3_.symm; clear f1_ f2_ f3_; subst f4_; subst f5_))
    refine start_ (n := 12) (S := fun w' => w'.cell? ⟨gb309, 0, none⟩ = some (.int .i64 (wrap64 (1 + t303))) ∧ w'.cell? ⟨gb309, 1, none⟩ = some (.int .i64 (wrap64 (1 + t306))) ∧ w'.cell? ⟨gb309, 2, none⟩ = some (.slice Ao53 x310002_1.length co53)) (ds := [11]) #[false, false, false, false, false, false, false, false, false, false, false, false] kr_ rfl rfl ⟨bc_ BK309 0 rfl, bc_ BK309 1 rfl, bc_ BK309 2 rfl⟩ (fun hHeld => ?_); refine with_tabW spec_l1Cur_field.tab11 spec_l1Cur_field.bits11 (fun HT_ HW_ => ?_)
    generalize w45.drew = w52 at HO_310002 BK302 BK309 HI0 HK HB hHeld ⊢
    refine pure_ (i := 0) (N := some 40) #[true, false, false, false, false, false, false, false, false, false, false, false] rfl rfl (any_of HT_.out kr_) (fun _ _ _ h => h) (Or.inl ⟨by rfl, mc354⟩) mc312 ?_
    refine pure_ (i := 2) (N := some 42) #[true, false, true, false, false, false, false, false, false, false, false, false] rfl rfl (any_of HT_.out kr_) (fun _ _ _ h => h) (Or.inl ⟨by rfl, mc354⟩) mc312 ?_
    refine pure_ (i := 3) (N := some 43) #[true, false, true, true, false, false, false, false, false, false, false, false] rfl rfl (any_of HT_.out kr_) (fun _ _ _ h => h) (Or.inl ⟨by rfl, mc354⟩) mc312 ?_
    refine pure_ (i := 7) (N := some 47) #[true, false, true, true, false, false, false, true, false, false, false, false] rfl rfl (any_of HT_.out kr_) (fun _ _ _ h => h) (Or.inl ⟨by rfl, mc354⟩) mc312 ?_
    refine take_ (i := 1) (N := some 41) #[true, true, true, true, false, false, false, true, false, false, false, false] rfl rfl (take_ofW HT_.out HW_.out kr_) (fun _ _ _ h => h) (Or.inl ⟨by rfl, mc340⟩) hHeld mc312 ?_
    refine take_ (i := 4) (N := some 44) #[true, true, true, true, true, false, false, true, false, false, false, false] rfl rfl (take_ofW HT_.out HW_.out kr_) (fun _ _ _ h => h) (Or.inl ⟨by rfl, mc340⟩) hHeld mc312 ?_
    refine pure_ (i := 5) (N := some 45) #[true, true, true, true, true, true, false, true, false, false, false, false] rfl rfl (any_of HT_.out kr_) (fun _ _ _ h => h) (Or.inl ⟨by rfl, mc354⟩) mc312 ?_
    refine join_ (σ := Value) 3 #[true, true, true, true, true, true, true, true, true, false, false, false] (fun s_ => [(46, .int .i64 t331), (48, s_)]) (fun s_ w' => (w'.cell? ⟨gb309, 0, none⟩ = some (.int .i64 (wrap64 (1 + t303))) ∧ w'.cell? ⟨gb309, 1, none⟩ = some (.int .i64 (wrap64 (1 + t306))) ∧ w'.cell? ⟨gb309, 2, none⟩ = some (.slice Ao53 x310002_1.length co53)) ∧ (Kd.R (Kd.int .i64) 3 w' w.heap.size (fun k_ => some k_ ≠ (.slice Ao53 x310002_1.length co53 : Value).ownBlock) s_ y334) ∧ (Kd.R (Kd.int .i64) 3 w' w.heap.size (fun k_ => some k_ ≠ (s_ : Value).ownBlock) (.slice Ao53 x310002_1.length co53) x310002_1) ∧ (w'.heap[gb302]? = some (.cells #[.int .i64 0, .int .i64 0, .slice none 0 0] 26 (0, 0))) ∧ (w'.heap[gb309]? = some (.cells #[.int .i64 (wrap64 (1 + t303)), .int .i64 (wrap64 (1 + t306)), .slice Ao53 x310002_1.length co53] 26 (0, 0))) ∧ (IsS61 w0 w' g s0_0 t332 t333) ∧ (KeepBut w w' g none) ∧ (Below w0.heap.size w0 w')) ?_ ?_
    rotate_left
    ·
     intro hCont
     refine two_ (i := 6) (j := 8) (Ni := some 46) (Nj := some 48) #[true, true, true, true, true, true, true, true, false, false, false, false] #[true, true, true, true, true, true, false, true, true, false, false, false] rfl rfl rfl rfl (two_of HT_.out kr_) (by decide) (by decide) (fun K hK => ?_) (fun K hK => ?_)
     ·
      skip
      refine goes_ Try.func79 kr_ rfl #[.pointer (some ⟨g, 0, none⟩), .int .i64 (x310002_1.length : Int)] (by rfl) rfl rfl mc247 ?_
      with_reducible refine (spec_l1Cur_pick.calls g s0_0 t329 t330 (x310002_1.length : Int) t331 t332 t333 w0 _ ?side1 ?side2 A47.out).mono ?_
      (case side1 => exact mc109)
      (case side2 => exact mc118)
      rintro e w54 ⟨rfl, hi, hb, hk⟩
      refine ⟨_, rfl, ?_⟩
      replace HO_310002 := A_ (Kd.R_mono (Kd.R_keep (IsS61.apart (show IsS61 w0 _ g s0_0 t329 t330 from by repeat (first | (with_reducible first | exact HI0.out | apply IsS61.alloc | apply IsS61.drewN | apply IsS61.drew | apply IsS61.set_1 | apply IsS61.set_2 | refine IsS61.far ?_ NB0_302.out _ | refine IsS61.far ?_ NB0_309.out _) | exact HI0.out)) mc310 (by decide)) hk (fun _ h => h.2)) (fun _ h => h.1))
      replace BK302 := A_ (KeepBut.blk hk (g' := gb302) (o := .cells #[.int .i64 0, .int .i64 0, .slice none 0 0] 26 (0, 0)) mc297 NB302_0.out (by simp))
      replace BK309 := A_ (KeepBut.blk hk (g' := gb309) (o := .cells #[.int .i64 (wrap64 (1 + t303)), .int .i64 (wrap64 (1 + t306)), .slice Ao53 x310002_1.length co53] 26 (0, 0)) mc298 NB309_0.out (by simp))
      replace HK := A_ (KeepBut.trans mc142 hk (.inl rfl))
      replace HB := A_ (hb)
      replace HI0 := A_ (hi)
      (try clear hb)
      refine hK.out _ _ ⟨bc_ BK309 0 rfl, bc_ BK309 1 rfl, bc_ BK309 2 rfl⟩ (fun hHeld => ?_)
      clear hK K
      refine norm_ (by show Act.put _ (some 46) _ = _; simp only [Act.put, List.setIfInBounds_toArray, List.set_cons_zero, List.set_cons_succ, i64_w, i32_w]; rfl) ?_
      refine one_ (i := 8) (N := some 48) #[true, true, true, true, true, true, true, true, true, false, false, false] rfl rfl (one_of HT_.out kr_) (by decide) (fun K hK => ?_)
      refine Kd.R_lit_step (Kd.int .i64) _ 3 ?hg (N := 48) ?hd (xs := ([9000, (-9000), 0] : List Int)) (inner := [.int .i64 9000, .int .i64 (-9000), .int .i64 0]) (ok := fun _ => True) (okp := fun _ => True) ?hr ?hp (fun _ hk => hk) trivial (Below.refl _ _) (Nat.le_refl _) (by simp) ?_; (case hd => rfl); (case hg => rfl); (case hr => exact mc353); (case hp => exact (Reps.one (show Kd.M (Kd.int .i64) _ _ _ 9000 [.int .i64 9000] from rfl) (Reps.one (show Kd.M (Kd.int .i64) _ _ _ (-9000) [.int .i64 (-9000)] from rfl) (Reps.one (show Kd.M (Kd.int .i64) _ _ _ 0 [.int .i64 0] from rfl) (Reps.none _ _)))))
      intro v335 w55 ho56 hb hg_ hnew_
      clear hg_ hnew_
      (first | rw [← Ny334.out] at ho56 | (simp only [Int.reduceToNat] at ho56; rw [← Ny334.out] at ho56))
      have HO336 := A_ (Kd.R_lower (Kd.R_new' ho56 (Kd.R_lt mc310)) (keep_size (w := w) (g := g) (row := none) mc142))
      replace HO_310002 := A_ (Kd.R_elder' mc310 (Kd.R_base ho56) hb)
      replace BK302 := A_ (blk_below mc297 hb)
      replace BK309 := A_ (blk_below mc298 hb)
      replace HK := A_ (KeepBut.trans mc142 (KeepBut.of_below hb g none) (.inl rfl))
      replace HB := A_ (below_step mc118 hb)
      replace HI0 := A_ (IsS61.below mc109 hb)
      clear hb ho56
      refine hK.out _ _ ⟨bc_ BK309 0 rfl, bc_ BK309 1 rfl, bc_ BK309 2 rfl⟩ (fun hHeld => ?_)
      clear hK K
      refine norm_ (by show Act.put _ (some 48) _ = _; simp only [Act.put, List.setIfInBounds_toArray, List.set_cons_zero, List.set_cons_succ, i64_w, i32_w]; rfl) ?_
      exact norm_ mc331 (hCont (v335) _ ⟨hHeld, (by (with_reducible repeat (first | apply Kd.R_alloc | apply Kd.R_drewN | apply Kd.R_drew)); exact Kd.R_mono HO336.out (fun _ hk => hk.2)), (by (with_reducible repeat (first | apply Kd.R_alloc | apply Kd.R_drewN | apply Kd.R_drew)); exact Kd.R_mono HO_310002.out (fun _ hk => hk.2)), mc297, mc298, mc109, mc142, mc118⟩)
     skip
     refine Kd.R_lit_step (Kd.int .i64) _ 3 ?hg (N := 48) ?hd (xs := ([9000, (-9000), 0] : List Int)) (inner := [.int .i64 9000, .int .i64 (-9000), .int .i64 0]) (ok := fun _ => True) (okp := fun _ => True) ?hr ?hp (fun _ hk => hk) trivial (Below.refl _ _) (Nat.le_refl _) (by simp) ?_; (case hd => rfl); (case hg => rfl); (case hr => exact mc353); (case hp => exact (Reps.one (show Kd.M (Kd.int .i64) _ _ _ 9000 [.int .i64 9000] from rfl) (Reps.one (show Kd.M (Kd.int .i64) _ _ _ (-9000) [.int .i64 (-9000)] from rfl) (Reps.one (show Kd.M (Kd.int .i64) _ _ _ 0 [.int .i64 0] from rfl) (Reps.none _ _)))))
     intro v335 w54 ho55 hb hg_ hnew_
     clear hg_ hnew_
     (first | rw [← Ny334.out] at ho55 | (simp only [Int.reduceToNat] at ho55; rw [← Ny334.out] at ho55))
     have HO336 := A_ (Kd.R_lower (Kd.R_new' ho55 (Kd.R_lt mc310)) (keep_size (w := w) (g := g) (row := none) mc142))
     replace HO_310002 := A_ (Kd.R_elder' mc310 (Kd.R_base ho55) hb)
     replace BK302 := A_ (blk_below mc297 hb)
     replace BK309 := A_ (blk_below mc298 hb)
     replace HK := A_ (KeepBut.trans mc142 (KeepBut.of_below hb g none) (.inl rfl))
     replace HB := A_ (below_step mc118 hb)
     replace HI0 := A_ (IsS61.below mc109 hb)
     clear hb ho55
     refine hK.out _ _ ⟨bc_ BK309 0 rfl, bc_ BK309 1 rfl, bc_ BK309 2 rfl⟩ (fun hHeld => ?_)
     clear hK K
     refine norm_ (by show Act.put _ (some 48) _ = _; simp only [Act.put, List.setIfInBounds_toArray, List.set_cons_zero, List.set_cons_succ, i64_w, i32_w]; rfl) ?_
     refine one_ (i := 6) (N := some 46) #[true, true, true, true, true, true, true, true, true, false, false, false] rfl rfl (one_of HT_.out kr_) (by decide) (fun K hK => ?_)
     refine goes_ Try.func79 kr_ rfl #[.pointer (some ⟨g, 0, none⟩), .int .i64 (x310002_1.length : Int)] (by rfl) rfl rfl mc247 ?_
     with_reducible refine (spec_l1Cur_pick.calls g s0_0 t329 t330 (x310002_1.length : Int) t331 t332 t333 w0 _ ?side1 ?side2 A47.out).mono ?_
     (case side1 => exact mc109)
     (case side2 => exact mc118)
     rintro e w56 ⟨rfl, hi, hb, hk⟩
     refine ⟨_, rfl, ?_⟩
     replace HO_310002 := A_ (Kd.R_mono (Kd.R_keep (IsS61.apart (show IsS61 w0 _ g s0_0 t329 t330 from by repeat (first | (with_reducible first | exact HI0.out | apply IsS61.alloc | apply IsS61.drewN | apply IsS61.drew | apply IsS61.set_1 | apply IsS61.set_2 | refine IsS61.far ?_ NB0_302.out _ | refine IsS61.far ?_ NB0_309.out _) | exact HI0.out)) mc310 (by decide)) hk (fun _ h => h.2)) (fun _ h => h.1))
     replace BK302 := A_ (KeepBut.blk hk (g' := gb302) (o := .cells #[.int .i64 0, .int .i64 0, .slice none 0 0] 26 (0, 0)) mc297 NB302_0.out (by simp))
     replace BK309 := A_ (KeepBut.blk hk (g' := gb309) (o := .cells #[.int .i64 (wrap64 (1 + t303)), .int .i64 (wrap64 (1 + t306)), .slice Ao53 x310002_1.length co53] 26 (0, 0)) mc298 NB309_0.out (by simp))
     replace HO336 := A_ (Kd.R_mono (Kd.R_keep (IsS61.apart (show IsS61 w0 _ g s0_0 t329 t330 from by repeat (first | (with_reducible first | exact HI0.out | apply IsS61.alloc | apply IsS61.drewN | apply IsS61.drew | apply IsS61.set_1 | apply IsS61.set_2 | refine IsS61.far ?_ NB0_302.out _ | refine IsS61.far ?_ NB0_309.out _) | exact HI0.out)) (by (with_reducible repeat (first | apply Kd.R_alloc | apply Kd.R_drewN | apply Kd.R_drew)); exact HO336.out) (by decide)) hk (fun _ h => h.2)) (fun _ h => h.1))
     replace HK := A_ (KeepBut.trans mc142 hk (.inl rfl))
     replace HB := A_ (hb)
     replace HI0 := A_ (hi)
     (try clear hb)
     refine hK.out _ _ ⟨bc_ BK309 0 rfl, bc_ BK309 1 rfl, bc_ BK309 2 rfl⟩ (fun hHeld => ?_)
     clear hK K
     refine norm_ (by show Act.put _ (some 46) _ = _; simp only [Act.put, List.setIfInBounds_toArray, List.set_cons_zero, List.set_cons_succ, i64_w, i32_w]; rfl) ?_
     exact norm_ mc331 (hCont (v335) _ ⟨hHeld, (by (with_reducible repeat (first | apply Kd.R_alloc | apply Kd.R_drewN | apply Kd.R_drew)); exact Kd.R_mono HO336.out (fun _ hk => hk.2)), (by (with_reducible repeat (first | apply Kd.R_alloc | apply Kd.R_drewN | apply Kd.R_drew)); exact Kd.R_mono HO_310002.out (fun _ hk => hk.2)), mc297, mc298, mc109, mc142, mc118⟩)
    rintro v335 w57 ⟨hS_, h0_, h1_, h2_, h3_, h4_, h5_, h6_⟩
    try dsimp only at h0_ h1_ h2_ h3_ h4_ h5_ h6_
    have HO336 := A_ h0_
    replace HO_310002 := A_ h1_
    replace BK302 := A_ h2_
    replace BK309 := A_ h3_
    replace HI0 := A_ h4_
    replace HK := A_ h5_
    replace HB := A_ h6_
    clear h0_ h1_ h2_ h3_ h4_ h5_ h6_
    have hHeld : w57.cell? ⟨gb309, 0, none⟩ = some (.int .i64 (wrap64 (1 + t303))) ∧ w57.cell? ⟨gb309, 1, none⟩ = some (.int .i64 (wrap64 (1 + t306))) ∧ w57.cell? ⟨gb309, 2, none⟩ = some (.slice Ao53 x310002_1.length co53) := hS_
    obtain ⟨Ao58, co58, eo58⟩ := Kd.R_slice HO336.out
    (first | subst eo58 | (injection eo58 with f1_ f2_ f3_; have f4_ := f1_.symm; have f5_ := f3_.symm; clear f1_ f2_ f3_; subst f4_; subst f5_))
    refine norm_ (a' := ?_) ?_ ?_
    rotate_left
    ·
     simp only [putAll, Act.put, List.setIfInBounds_toArray, List.set_cons_zero, List.set_cons_succ]
     rfl
    refine one_ (i := 9) (N := some 49) #[true, true, true, true, true, true, true, true, true, true, false, false] rfl rfl (one_of HT_.out kr_) (by decide) (fun K hK => ?_)
    refine goes_ Try.func43 kr_ rfl #[.pointer (some ⟨g, 0, none⟩), .slice Ao58 y334.length co58] (by rfl) rfl rfl mc247 ?_
    with_reducible refine (spec_l1Cur_among.calls g s0_0 t332 t333 _ _ y334 t337 t338 t339 w0 _ ?side1 ?side2 ?side3 ?side4 ?side5 A48.out).mono ?_
    (case side1 => exact mc109)
    (case side2 => exact mc118)
    (case side3 => repeat (first | exact (Kd.R_reads' HO336.out).2.2 | (with_reducible refine Kd.C_alloc ?_ _) | (with_reducible refine Kd.C_drewN ?_ _) | (with_reducible refine Kd.C_drew ?_)))
    (case side4 => exact (Kd.R_reads' HO336.out).2.1)
    (case side5 => exact far_slice (IsS61.own_ne HI0.out HO336.out (by decide)))
    rintro e w59 ⟨rfl, hi, hb, hk⟩
    refine ⟨_, rfl, ?_⟩
    replace HO_310002 := A_ (Kd.R_mono (Kd.R_keep (IsS61.apart (show IsS61 w0 _ g s0_0 t332 t333 from by repeat (first | (with_reducible first | exact HI0.out | apply IsS61.alloc | apply IsS61.drewN | apply IsS61.drew | apply IsS61.set_1 | apply IsS61.set_2 | refine IsS61.far ?_ NB0_302.out _ | refine IsS61.far ?_ NB0_309.out _) | exact HI0.out)) mc310 (by decide)) hk (fun _ h => h.2)) (fun _ h => h.1))
    replace BK302 := A_ (KeepBut.blk hk (g' := gb302) (o := .cells #[.int .i64 0, .int .i64 0, .slice none 0 0] 26 (0, 0)) mc297 NB302_0.out (by simp))
    replace BK309 := A_ (KeepBut.blk hk (g' := gb309) (o := .cells #[.int .i64 (wrap64 (1 + t303)), .int .i64 (wrap64 (1 + t306)), .slice Ao53 x310002_1.length co53] 26 (0, 0)) mc298 NB309_0.out (by simp))
    replace HO336 := A_ (Kd.R_mono (Kd.R_keep (IsS61.apart (show IsS61 w0 _ g s0_0 t332 t333 from by repeat (first | (with_reducible first | exact HI0.out | apply IsS61.alloc | apply IsS61.drewN | apply IsS61.drew | apply IsS61.set_1 | apply IsS61.set_2 | refine IsS61.far ?_ NB0_302.out _ | refine IsS61.far ?_ NB0_309.out _) | exact HI0.out)) (by (with_reducible repeat (first | apply Kd.R_alloc | apply Kd.R_drewN | apply Kd.R_drew)); exact HO336.out) (by decide)) hk (fun _ h => h.2)) (fun _ h => h.1))
    replace HK := A_ (KeepBut.trans mc142 hk (.inl rfl))
    replace HB := A_ (hb)
    replace HI0 := A_ (hi)
    (try clear hb)
    have p51 : 0 ≤ (t331 : Int) := of_decide_eq_true mc341
    have q51 : (t331 : Int) < ((x310002_1.length : Int) : Int) := of_decide_eq_true mc341
    obtain ⟨go51, co51, eo51, gb51, gl51, cl51, HG51⟩ := Kd.R_form HO_310002.out (by omega)
    (first | cases eo51 | (injection eo51 with ea_ en_ ec_; (first | subst ea_ | (injection ea_ with ea_; subst ea_)); subst ec_; clear en_))
    have GB51 := A_ gb51
    have GG51 := A_ HG51
    clear gb51 gl51 HG51
    obtain ⟨hx51_0, hf51_0⟩ := Kd.R_celln 0 HO_310002.out (t331 : Int) p51 q51
    replace p51 := eq_true p51
    replace q51 := eq_true q51
    have HN0_go51 := A_ (show g ≠ go51 from by have h_ := IsS61.own_ne HI0.out HO_310002.out (by decide); intro e_; exact h_ mc357)
    have HP60 := Kd.R_putn HO_310002.out (t331 : Int) t337
    rw [← Ny340.out] at HP60
    have HQ60 := A_ HP60
    clear HP60
    refine hK.out _ _ ⟨bc_ BK309 0 rfl, bc_ BK309 1 rfl, bc_ BK309 2 rfl⟩ (fun hHeld => ?_)
    clear hK K
    refine norm_ (by show Act.put _ (some 49) _ = _; simp only [Act.put, List.setIfInBounds_toArray, List.set_cons_zero, List.set_cons_succ, i64_w, i32_w]; rfl) ?_
    refine pure_ (i := 10) (N := some 50) #[true, true, true, true, true, true, true, true, true, true, true, false] rfl rfl (any_of HT_.out kr_) (fun _ _ _ h => h) (Or.inl ⟨by rfl, mc354⟩) mc312 ?_
    refine last_ (i := 11) (N := none) #[true, true, true, true, true, true, true, true, true, true, true, true] rfl rfl (one_of HT_.out kr_) (by decide) (fun K hK => ?_)
    refine skip_ (w1 := ?_) (by rfl) rfl ?_ ?_
    rotate_left
    ·
     go_simp
     rfl
    refine hK.out _ _ ?_
    clear hK K
    refine done_ (done_of HT_.out kr_) ?_
    try go_wp2
    go_meet
    case rel => exact ⟨_, (t338), (t339), (y340), (.slice (some ⟨go51, 0, none⟩) x310002_1.length co53), H', ⟨by have := HK1.out; first | omega | exact Nat.le_refl _⟩, ⟨by (with_reducible repeat (first | apply Kd.R_alloc | apply Kd.R_drewN | apply Kd.R_drew)); exact Kd.R_mono HQ60.out (fun _ hk => trivial)⟩, ⟨by (with_reducible repeat (first | refine blk_drewN ?_ _ | refine blk_drew ?_ | refine blk_alloc ?_ _)); refine blk_far ?_ (by have h_ := Kd.R_ne HO_310002.out BK302.out (by decide); intro e_; exact h_ mc357) _; (with_reducible repeat (first | refine blk_drewN ?_ _ | refine blk_drew ?_ | refine blk_alloc ?_ _)); exact BK302.out⟩, ⟨by (with_reducible repeat (first | refine blk_drewN ?_ _ | refine blk_drew ?_ | refine blk_alloc ?_ _)); refine blk_far ?_ (by have h_ := Kd.R_ne HO_310002.out BK309.out (by decide); intro e_; exact h_ mc357) _; (with_reducible repeat (first | refine blk_drewN ?_ _ | refine blk_drew ?_ | refine blk_alloc ?_ _)); exact BK309.out⟩, ⟨by repeat (first | (with_reducible first | exact HI0.out | apply IsS61.alloc | apply IsS61.drewN | apply IsS61.drew | apply IsS61.set_1 | apply IsS61.set_2 | refine IsS61.far ?_ HN0_go51.out _ | refine IsS61.far ?_ NB0_302.out _ | refine IsS61.far ?_ NB0_309.out _) | exact HI0.out)⟩, ⟨by repeat (first | (with_reducible first | exact HK.out | apply KeepBut.set_ | apply keep_drewN | apply keep_drew | apply keep_alloc | refine keep_far ?_ GB51.out _ | refine keep_far ?_ GW302.out _ | refine keep_far ?_ GW309.out _) | exact HK.out)⟩, ⟨by repeat (first | (with_reducible first | exact HB.out | apply below_alloc | apply pw_below_drewN | apply below_drew1 | refine below_set ?_ (Nat.le_trans HL.out GB51.out) | refine below_set ?_ (IsS61.ge HI0.out) | refine below_set ?_ GE302.out | refine below_set ?_ GE309.out) | exact HB.out)⟩⟩
   case rest =>
    clear HC41
    try clear p2
    try clear p5
    try clear q5
    try clear hx5
    try clear hf5
    try clear p6
    try clear c16b0
    try clear c49b0
    try clear c50b0
    try clear p51
    try clear q51
    try clear hx51
    try clear hf51
    try clear hx51_0
    try clear p2
    try clear p51
    try clear p6
    try clear q51
    obtain ⟨kq, x1001_40, x1002_40, x310002_40, u310002, HA, HJ40, HO_310002, BK302, BK309, HI0, HK, HB⟩ := hcut
    cases kq with
    | zero => exact absurd HA.out (by simp [spec_l1Cur_field.j1])
    | succ kj40 =>
     have H := HA.out
     clear HA
     simp only [spec_l1Cur_field.j1] at H
     obtain ⟨⟨t341, t342, t343⟩, A610, H⟩ := oB_ H
     have A61 := A_ A610
     clear A610
     by_cases c62 : t341 = true
     rotate_left
     ·
      replace c62 := Bool.eq_false_iff.mpr c62
      subst c62
      rw [if_neg (show ¬ (false = true) by decide)] at H
      simp only [Option.some.injEq, Prod.mk.injEq] at H
      obtain ⟨rfl, rfl, rfl, rfl, rfl⟩ := H
      go_wp2_with (first | ((with_reducible refine gc_ 78 rfl ?_); refine goesL_ (some 52) rfl rfl Try.func78 kr_ rfl #[.pointer (some ⟨g, 0, none⟩), .int .i64 24] rfl mc247 ?_; (with_reducible refine (spec_l1Cur_one.calls g s0_0 x1001_40 x1002_40 24 false t342 t343 w0 _ ?side1 ?side2 A61.out).mono ?_); (case side1 => exact mc109); (case side2 => exact mc118); rintro e w72 ⟨rfl, hi, hb, hk⟩; refine ⟨_, rfl, ?_⟩; replace HO_310002 := A_ (Kd.R_mono (Kd.R_keep (IsS61.apart (show IsS61 w0 _ g s0_0 x1001_40 x1002_40 from by repeat (first | (with_reducible first | exact HI0.out | apply IsS61.alloc | apply IsS61.drewN | apply IsS61.drew | apply IsS61.set_1 | apply IsS61.set_2 | refine IsS61.far ?_ NB0_302.out _ | refine IsS61.far ?_ NB0_309.out _) | exact HI0.out)) mc310 (by decide)) hk (fun _ h => h.2)) (fun _ h => h.1)); replace BK302 := A_ (KeepBut.blk hk (g' := gb302) (o := .cells #[.int .i64 0, .int .i64 0, .slice none 0 0] 26 (0, 0)) mc297 NB302_0.out (by simp)); replace BK309 := A_ (KeepBut.blk hk (g' := gb309) (o := .cells #[.int .i64 (wrap64 (1 + t303)), .int .i64 (wrap64 (1 + t306)), u310002] 26 (0, 0)) mc298 NB309_0.out (by simp)); replace HK := A_ (KeepBut.trans mc142 hk (.inl rfl)); replace HB := A_ (hb); replace HI0 := A_ (hi); (try clear hb); have hnb73 := NB309_302.out; have hnc73 := NB302_309.out; have hnb74 := NB309_0.out; have hnc74 := NB0_309.out; have hcz75_0 : w72.cell? ⟨gb309, 0, none⟩ = some (.int .i64 (wrap64 (1 + t303))) := bc_ BK309 0 rfl; have hcz75_1 : w72.cell? ⟨gb309, 1, none⟩ = some (.int .i64 (wrap64 (1 + t306))) := bc_ BK309 1 rfl; have hcz75_2 : w72.cell? ⟨gb309, 2, none⟩ = some (u310002) := bc_ BK309 2 rfl; have hfz75_0 := blk_frozen BK309.out 0; have hfz75_1 := blk_frozen BK309.out 1; have hfz75_2 := blk_frozen BK309.out 2; have hnb76 := NB302_0.out; have hnc76 := NB0_302.out; have hcz77_0 : w72.cell? ⟨gb302, 0, none⟩ = some (.int .i64 0) := bc_ BK302 0 rfl; have hcz77_1 : w72.cell? ⟨gb302, 1, none⟩ = some (.int .i64 0) := bc_ BK302 1 rfl; have hcz77_2 : w72.cell? ⟨gb302, 2, none⟩ = some (.slice none 0 0) := bc_ BK302 2 rfl; have hfz77_0 := blk_frozen BK302.out 0; have hfz77_1 := blk_frozen BK302.out 1; have hfz77_2 := blk_frozen BK302.out 2; obtain ⟨Ao78, co78, eo78⟩ := Kd.R_slice HO_310002.out; subst eo78))
      refine bodyPost_ret (results_cell_row rfl _ _ gb302 26 #[.int .i64 (wrap64 (1 + t303)), .int .i64 (wrap64 (1 + t306)), .slice Ao78 x310002_40.length co78] (0, 0) _ rfl (by (with_reducible repeat (first | refine blk_drewN ?_ _ | refine blk_drew ?_ | refine blk_alloc ?_ _)); refine blk_put (cs := #[.int .i64 (wrap64 (1 + t303)), .int .i64 (wrap64 (1 + t306)), .slice none 0 0]) ?_ 2 _ rfl; (with_reducible repeat (first | refine blk_drewN ?_ _ | refine blk_drew ?_ | refine blk_alloc ?_ _)); refine blk_put (cs := #[.int .i64 (wrap64 (1 + t303)), .int .i64 0, .slice none 0 0]) ?_ 1 _ rfl; (with_reducible repeat (first | refine blk_drewN ?_ _ | refine blk_drew ?_ | refine blk_alloc ?_ _)); refine blk_put (cs := #[.int .i64 0, .int .i64 0, .slice none 0 0]) ?_ 0 _ rfl; (with_reducible repeat (first | refine blk_drewN ?_ _ | refine blk_drew ?_ | refine blk_alloc ?_ _)); exact BK302.out) Try.underlying26 rfl kr_) rfl ?_
      exact ⟨_, mc332, by (with_reducible repeat (first | apply Kd.R_alloc | apply Kd.R_drewN | apply Kd.R_drew)); exact Kd.R_mono (Kd.R_far (p := ⟨gb302, 2, none⟩) (Kd.R_far (p := ⟨gb302, 1, none⟩) (Kd.R_far (p := ⟨gb302, 0, none⟩) (Kd.R_types HO_310002.out BK302.out (by decide)) (fun _ hk => hk.2) (.int .i64 (wrap64 (1 + t303)))) (fun _ hk => hk.2) (.int .i64 (wrap64 (1 + t306)))) (fun _ hk => hk.2) (.slice Ao78 x310002_40.length co78)) (fun _ hk => trivial), mc109, mc118, mc142⟩
     subst c62
     rw [if_pos rfl] at H
     obtain ⟨⟨t344, t345, t346⟩, A630, H⟩ := oB_ H
     have A63 := A_ A630
     clear A630
     simp only [Option.some.injEq, Prod.mk.injEq] at H
     obtain ⟨rfl, rfl, rfl, rfl, rfl⟩ := H
     go_wp2_with (first | ((with_reducible refine gc_ 78 rfl ?_); refine goesL_ (some 52) rfl rfl Try.func78 kr_ rfl #[.pointer (some ⟨g, 0, none⟩), .int .i64 24] rfl mc247 ?_; (with_reducible refine (spec_l1Cur_one.calls g s0_0 x1001_40 x1002_40 24 true t342 t343 w0 _ ?side1 ?side2 A61.out).mono ?_); (case side1 => exact mc109); (case side2 => exact mc118); rintro e w64 ⟨rfl, hi, hb, hk⟩; refine ⟨_, rfl, ?_⟩; replace HO_310002 := A_ (Kd.R_mono (Kd.R_keep (IsS61.apart (show IsS61 w0 _ g s0_0 x1001_40 x1002_40 from by repeat (first | (with_reducible first | exact HI0.out | apply IsS61.alloc | apply IsS61.drewN | apply IsS61.drew | apply IsS61.set_1 | apply IsS61.set_2 | refine IsS61.far ?_ NB0_302.out _ | refine IsS61.far ?_ NB0_309.out _) | exact HI0.out)) mc310 (by decide)) hk (fun _ h => h.2)) (fun _ h => h.1)); replace BK302 := A_ (KeepBut.blk hk (g' := gb302) (o := .cells #[.int .i64 0, .int .i64 0, .slice none 0 0] 26 (0, 0)) mc297 NB302_0.out (by simp)); replace BK309 := A_ (KeepBut.blk hk (g' := gb309) (o := .cells #[.int .i64 (wrap64 (1 + t303)), .int .i64 (wrap64 (1 + t306)), u310002] 26 (0, 0)) mc298 NB309_0.out (by simp)); replace HK := A_ (KeepBut.trans mc142 hk (.inl rfl)); replace HB := A_ (hb); replace HI0 := A_ (hi); (try clear hb)) | ((with_reducible refine gc_ 107 rfl ?_); refine goesL_ (some 53) rfl rfl Try.func107 kr_ rfl #[.int .i64 8, .int .i64 8, .int .i64 3] rfl mc247 ?_; (with_reducible refine (spec_l2Fill.calls kj40 8 8 3 t344 t345 t346 _ A63.out).mono ?_); rintro e w65 ⟨v347, rfl, ho0, hb⟩; refine ⟨_, rfl, ?_⟩; have HO348 := A_ (Kd.R_lower (Kd.R_new' ho0 (Kd.R_lt mc310)) (keep_size (w := w) (g := g) (row := none) mc142)); replace HO_310002 := A_ (Kd.R_elder' mc310 (Kd.R_base ho0) hb); replace BK302 := A_ (blk_below mc297 hb); replace BK309 := A_ (blk_below mc298 hb); replace HK := A_ (KeepBut.trans mc142 (KeepBut.of_below hb g none) (.inl rfl)); replace HB := A_ (below_step mc118 hb); replace HI0 := A_ (IsS61.below mc109 hb); (try clear hb); (try clear ho0); have hnb66 := NB309_302.out; have hnc66 := NB302_309.out; have hnb67 := NB309_0.out; have hnc67 := NB0_309.out; have hcz68_0 : w65.cell? ⟨gb309, 0, none⟩ = some (.int .i64 (wrap64 (1 + t303))) := bc_ BK309 0 rfl; have hcz68_1 : w65.cell? ⟨gb309, 1, none⟩ = some (.int .i64 (wrap64 (1 + t306))) := bc_ BK309 1 rfl; have hcz68_2 : w65.cell? ⟨gb309, 2, none⟩ = some (u310002) := bc_ BK309 2 rfl; have hfz68_0 := blk_frozen BK309.out 0; have hfz68_1 := blk_frozen BK309.out 1; have hfz68_2 := blk_frozen BK309.out 2; obtain ⟨Ao69, co69, eo69⟩ := Kd.R_slice HO348.out; subst eo69; have hnb70 := NB302_0.out; have hnc70 := NB0_302.out; have hcz71_0 : w65.cell? ⟨gb302, 0, none⟩ = some (.int .i64 0) := bc_ BK302 0 rfl; have hcz71_1 : w65.cell? ⟨gb302, 1, none⟩ = some (.int .i64 0) := bc_ BK302 1 rfl; have hcz71_2 : w65.cell? ⟨gb302, 2, none⟩ = some (.slice none 0 0) := bc_ BK302 2 rfl; have hfz71_0 := blk_frozen BK302.out 0; have hfz71_1 := blk_frozen BK302.out 1; have hfz71_2 := blk_frozen BK302.out 2))
     refine bodyPost_ret (results_cell_row rfl _ _ gb302 26 #[.int .i64 t344, .int .i64 t345, .slice Ao69 t346.length co69] (0, 0) _ rfl (by (with_reducible repeat (first | refine blk_drewN ?_ _ | refine blk_drew ?_ | refine blk_alloc ?_ _)); refine blk_put (cs := #[.int .i64 t344, .int .i64 t345, .slice none 0 0]) ?_ 2 _ rfl; (with_reducible repeat (first | refine blk_drewN ?_ _ | refine blk_drew ?_ | refine blk_alloc ?_ _)); refine blk_put (cs := #[.int .i64 t344, .int .i64 0, .slice none 0 0]) ?_ 1 _ rfl; (with_reducible repeat (first | refine blk_drewN ?_ _ | refine blk_drew ?_ | refine blk_alloc ?_ _)); refine blk_put (cs := #[.int .i64 0, .int .i64 0, .slice none 0 0]) ?_ 0 _ rfl; (with_reducible repeat (first | refine blk_drewN ?_ _ | refine blk_drew ?_ | refine blk_alloc ?_ _)); refine blk_far ?_ NB302_309.out _; (with_reducible repeat (first | refine blk_drewN ?_ _ | refine blk_drew ?_ | refine blk_alloc ?_ _)); refine blk_far ?_ NB302_309.out _; (with_reducible repeat (first | refine blk_drewN ?_ _ | refine blk_drew ?_ | refine blk_alloc ?_ _)); refine blk_far ?_ NB302_309.out _; (with_reducible repeat (first | refine blk_drewN ?_ _ | refine blk_drew ?_ | refine blk_alloc ?_ _)); exact BK302.out) Try.underlying26 rfl kr_) rfl ?_
     exact ⟨_, mc332, by (with_reducible repeat (first | apply Kd.R_alloc | apply Kd.R_drewN | apply Kd.R_drew)); exact Kd.R_mono (Kd.R_far (p := ⟨gb302, 2, none⟩) (Kd.R_far (p := ⟨gb302, 1, none⟩) (Kd.R_far (p := ⟨gb302, 0, none⟩) (Kd.R_far (p := ⟨gb309, 2, none⟩) (Kd.R_far (p := ⟨gb309, 1, none⟩) (Kd.R_far (p := ⟨gb309, 0, none⟩) (Kd.R_types (Kd.R_types HO348.out BK309.out (by decide)) BK302.out (by decide)) (fun _ hk => hk.1.2) (.int .i64 t344)) (fun _ hk => hk.1.2) (.int .i64 t345)) (fun _ hk => hk.1.2) (.slice Ao69 t346.length co69)) (fun _ hk => hk.2) (.int .i64 t344)) (fun _ hk => hk.2) (.int .i64 t345)) (fun _ hk => hk.2) (.slice Ao69 t346.length co69)) (fun _ hk => trivial), mc109, mc118, mc142⟩

end Go.Proofs.Ytdmkbfjipgaloaa.P
