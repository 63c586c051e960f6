-- Made by pp.py of this session out of the kit's print and of contracts proved by hand; Lean checks it.
import Derived.Test.YtgmmanppmjlclaaGreatDoorMc
import Derived.Test.YtgmmanppmjlclaaGreatDoorPx0
import Derived.Test.YtgmmanppmjlclaaGreatDoorPx11
import Derived.Test.YtgmmanppmjlclaaGreatDoorPx12
namespace Go.Proofs.YtgmmanppmjlclaaGreatDoor.P
open Go.RowKit Go.Proofs.YtgmmanppmjlclaaGreatDoorW.PrintWords Go.Proofs.YtgmmanppmjlclaaGreatDoorW.PrintLast Go.Proofs.YtgmmanppmjlclaaGreatDoorW.PrintMore
attribute [local go_sem] max2_int min2_int max_two min_two max_three min_three max_four min_four   -- for this text's walks alone
set_option linter.unusedVariables false
set_option linter.unusedSimpArgs false

/-! ### cmp_isNaN_int: function 72 -/
def cmp_isNaN_int.f (a0 : Int) : Option (Bool) := some (a0 != a0)
set_option maxHeartbeats 8000000 in
set_option maxRecDepth 100000 in
theorem cmp_isNaN_int.calls (a0 : Int) (r : Bool) (w : World) (h : cmp_isNaN_int.f a0 = some r) :
    Calls Tryz.prog 72 #[.int .i64 a0] w fun e w' => e = .returned (.bool r) ∧ Drawn0 w w' := by
  have H : (some (a0 != a0)) = some r := h
  clear h
  obtain rfl := Option.some.inj H
  go_enter Tryz.func72, Tryz.ntmps72
  go_wp2
  go_ret
  exact ⟨mc82, mc80⟩

/-! ### cmp_Compare_int: function 55 -/
def cmp_Compare_int.f (a0 : Int) (a1 : Int) : Option (Int) := (cmp_isNaN_int.f a0).bind fun t294 => ((cmp_isNaN_int.f a1).bind fun t295 => (if t294 = true then (if t295 = true then (some 0) else (some (-1))) else (if t295 = true then (some 1) else (if a0 < a1 then (some (-1)) else (if a0 > a1 then (some 1) else (some 0))))))
theorem cmp_Compare_int.calls.L1 {P : Prop} (h : P := by
 obtain rfl := Option.some.inj H
 go_enter Tryz.func55, Tryz.ntmps55
 go_wp2_with (first | ((with_reducible refine gc_ 72 rfl ?_); refine goesL_ (some 8) rfl rfl Tryz.func72 kr_ rfl #[.int .i64 a0] rfl mc47 ?_; (with_reducible refine (cmp_isNaN_int.calls a0 _ _ A3.out).mono ?_); rintro e w' ⟨rfl, ⟨nd, rfl⟩⟩; refine ⟨_, rfl, ?_⟩) | ((with_reducible refine gc_ 72 rfl ?_); refine goesL_ (some 10) rfl rfl Tryz.func72 kr_ rfl #[.int .i64 a1] rfl mc47 ?_; (with_reducible refine (cmp_isNaN_int.calls a1 _ _ A4.out).mono ?_); rintro e w' ⟨rfl, ⟨nd, rfl⟩⟩; refine ⟨_, rfl, ?_⟩))
 go_ret
 exact ⟨mc82, mc80⟩) : P := h
set_option maxHeartbeats 8000000 in
set_option maxRecDepth 100000 in
theorem cmp_Compare_int.calls (a0 : Int) (a1 : Int) (r : Int) (w : World) (h : cmp_Compare_int.f a0 a1 = some r) :
    Calls Tryz.prog 55 #[.int .i64 a0, .int .i64 a1] w fun e w' => e = .returned (.int .i64 r) ∧ Drawn0 w w' := by
  have H : ((cmp_isNaN_int.f a0).bind fun t294 => ((cmp_isNaN_int.f a1).bind fun t295 => (if t294 = true then (if t295 = true then (some 0) else (some (-1))) else (if t295 = true then (some 1) else (if a0 < a1 then (some (-1)) else (if a0 > a1 then (some 1) else (some 0))))))) = some r := h
  clear h
  obtain ⟨t294, A30, H⟩ := oB_ H
  have A3 := A_ A30
  clear A30
  obtain ⟨t295, A40, H⟩ := oB_ H
  have A4 := A_ A40
  clear A40
  by_cases c5 : t294 = true
  ·
   subst c5
   rw [if_pos rfl] at H
   by_cases c6 : t295 = true
   ·
    subst c6
    rw [if_pos rfl] at H
    exact cmp_Compare_int.calls.L1
   ·
    replace c6 := Bool.eq_false_iff.mpr c6
    subst c6
    rw [if_neg (show ¬ (false = true) by decide)] at H
    exact cmp_Compare_int.calls.L1
  ·
   replace c5 := Bool.eq_false_iff.mpr c5
   subst c5
   rw [if_neg (show ¬ (false = true) by decide)] at H
   by_cases c7 : t295 = true
   ·
    subst c7
    rw [if_pos rfl] at H
    exact cmp_Compare_int.calls.L1
   ·
    replace c7 := Bool.eq_false_iff.mpr c7
    subst c7
    rw [if_neg (show ¬ (false = true) by decide)] at H
    by_cases c8 : a0 < a1
    ·
     rw [if_pos c8] at H
     have c8b0 : decide (a0 < a1) = true := decide_eq_true c8
     clear c8
     exact cmp_Compare_int.calls.L1
    ·
     rw [if_neg c8] at H
     have c8b0 : decide (a0 < a1) = false := decide_eq_false c8
     clear c8
     by_cases c9 : a0 > a1
     ·
      rw [if_pos c9] at H
      have c9b0 : decide (a1 < a0) = true := decide_eq_true c9
      clear c9
      exact cmp_Compare_int.calls.L1
     ·
      rw [if_neg c9] at H
      have c9b0 : decide (a1 < a0) = false := decide_eq_false c9
      clear c9
      exact cmp_Compare_int.calls.L1
/-! ### impl_compareProducts: function 27 -/
def impl_compareProducts.f (k : Nat) (a0_0 : ByteArray) (a0_1 : Int) (a0_2 : ByteArray) (a1_0 : ByteArray) (a1_1 : Int) (a1_2 : ByteArray) : Option (Int) := (strings_Compare.f a0_0 a1_0).bind fun t298 => ((cmp_Compare_int.f a0_1 a1_1).bind fun t299 => ((cmp_Or_int.f k (([t298, t299] : List Int))).bind fun t303 => (some t303)))
def impl_compareProducts.T1 : Bool × List (List Nat × List Nat) := (true, [([], []), ([0], [0]), ([], []), ([2], [2]), ([1, 3], [1, 3]), ([], []), ([5], [5]), ([], []), ([7], [7]), ([6, 8, 4], [6, 8]), ([4, 9], [4, 9]), ([10, 9], [10]), ([11, 11, 0, 1, 2, 3, 4, 5, 6, 7, 8, 9, 10, 11], [11])])
def impl_compareProducts.B1 : List Nat := [0, 1, 0, 4, 15, 0, 32, 0, 128, 511, 1023, 2047, 4095]
theorem impl_compareProducts.tab1 : rtab .any (opsOf Tryz.f27 1) = impl_compareProducts.T1 := by kernel_rfl
theorem impl_compareProducts.bits1 : waitsOk impl_compareProducts.T1.2 impl_compareProducts.B1 = true := by kernel_rfl
set_option maxHeartbeats 8000000 in
set_option maxRecDepth 100000 in
theorem impl_compareProducts.calls (k : Nat) (a0_0 : ByteArray) (a0_1 : Int) (a0_2 : ByteArray) (a1_0 : ByteArray) (a1_1 : Int) (a1_2 : ByteArray) (r : Int) (w : World) (h : impl_compareProducts.f k a0_0 a0_1 a0_2 a1_0 a1_1 a1_2 = some r) :
    Calls Tryz.prog 27 #[.agg #[.string a0_0, .int .i64 a0_1, .string a0_2], .agg #[.string a1_0, .int .i64 a1_1, .string a1_2]] w fun e w' => e = .returned (.int .i64 r) ∧ Below w.heap.size w w' := by
  have hu26 := Tryz.underlying26
  have HB := A_ (Below.refl w.heap.size w)
  have H : ((strings_Compare.f a0_0 a1_0).bind fun t298 => ((cmp_Compare_int.f a0_1 a1_1).bind fun t299 => ((cmp_Or_int.f k (([t298, t299] : List Int))).bind fun t303 => (some t303)))) = some r := h
  clear h
  obtain ⟨t298, A30, H⟩ := oB_ H
  have A3 := A_ A30
  clear A30
  obtain ⟨t299, A40, H⟩ := oB_ H
  have A4 := A_ A40
  clear A40
  obtain ⟨y300, hy300⟩ : ∃ y_ : List Int, y_ = (([t298, t299] : List Int)) := ⟨_, rfl⟩
  replace H : ((cmp_Or_int.f k y300).bind fun t303 => (some t303)) = some r := by first | (rw [hy300]; with_reducible exact H) | (have H2_ := (Option.bind_some _ _).symm.trans H; rw [hy300]; with_reducible exact H2_) | (have H2_ := (Option.bind_some _ _).symm.trans H; with_reducible exact H2_) | with_reducible exact H | (rw [hy300]; exact H) | exact H
  have Ny300 := A_ hy300
  clear hy300
  obtain ⟨t303, A50, H⟩ := oB_ H
  have A5 := A_ A50
  clear A50
  obtain rfl := Option.some.inj H
  go_enter Tryz.func27, Tryz.ntmps27
  try go_wp2_with (first | ((with_reducible refine gd_ 2 rfl ?_); refine box_event rfl (N := 2) rfl (cs := #[.string a0_0, .int .i64 a0_1, .string a0_2]) (t := 26) mc83 ?_; intro gb296 hg w6 hbox hb; have BK296 := A_ (hbox); have GW296 := A_ ((mc34 : w.heap.size ≤ gb296)); have GE296 := A_ ((mc34 : w.heap.size ≤ gb296)); replace HB := A_ (below_step mc53 hb); clear hb hbox hg) | ((with_reducible refine gd_ 3 rfl ?_); refine box_event rfl (N := 3) rfl (cs := #[.string a1_0, .int .i64 a1_1, .string a1_2]) (t := 26) mc83 ?_; intro gb297 hg w7 hbox hb; have BK297 := A_ (hbox); have GW297 := A_ ((mc20 : w.heap.size ≤ gb297)); have GE297 := A_ ((mc20 : w.heap.size ≤ gb297)); replace HB := A_ (below_step mc37 hb); have NB296_297 := A_ ((by rw [hg]; exact Nat.ne_of_lt (blk_lt mc59) : gb296 ≠ gb297)); have NB297_296 := A_ ((by rw [hg]; exact Nat.ne_of_gt (blk_lt mc59) : gb297 ≠ gb296)); replace BK296 := A_ (blk_below mc59 hb); clear hb hbox hg))
  replace BK296 := A_ (blk_drew BK296.out)
  replace BK297 := A_ (blk_drew BK297.out)
  replace HB := A_ (below_drew1 HB.out)
  refine start_ (n := 13) (S := fun w' => w'.cell? ⟨gb296, 0, none⟩ = some (.string a0_0) ∧ w'.cell? ⟨gb296, 1, none⟩ = some (.int .i64 a0_1) ∧ w'.cell? ⟨gb296, 2, none⟩ = some (.string a0_2) ∧ w'.cell? ⟨gb297, 0, none⟩ = some (.string a1_0) ∧ w'.cell? ⟨gb297, 1, none⟩ = some (.int .i64 a1_1) ∧ w'.cell? ⟨gb297, 2, none⟩ = some (.string a1_2)) (ds := []) #[false, false, false, false, false, false, false, false, false, false, false, false, false] kr_ rfl rfl ⟨bc_ BK296 0 rfl, bc_ BK296 1 rfl, bc_ BK296 2 rfl, bc_ BK297 0 rfl, bc_ BK297 1 rfl, bc_ BK297 2 rfl⟩ (fun hHeld => ?_); refine with_tabW impl_compareProducts.tab1 impl_compareProducts.bits1 (fun HT_ HW_ => ?_)
  generalize w7.drew = w8 at BK296 BK297 HB hHeld ⊢
  refine pure_ (i := 0) (N := some 5) #[true, false, false, false, false, false, false, false, false, false, false, false, false] rfl rfl (any_of HT_.out kr_) (fun _ _ _ h => h) (Or.inl ⟨by rfl, mc84⟩) mc64 ?_
  refine pure_ (i := 2) (N := some 7) #[true, false, true, false, false, false, false, false, false, false, false, false, false] rfl rfl (any_of HT_.out kr_) (fun _ _ _ h => h) (Or.inl ⟨by rfl, mc84⟩) mc64 ?_
  refine pure_ (i := 5) (N := some 10) #[true, false, true, false, false, true, false, false, false, false, false, false, false] rfl rfl (any_of HT_.out kr_) (fun _ _ _ h => h) (Or.inl ⟨by rfl, mc84⟩) mc64 ?_
  refine pure_ (i := 7) (N := some 12) #[true, false, true, false, false, true, false, true, false, false, false, false, false] rfl rfl (any_of HT_.out kr_) (fun _ _ _ h => h) (Or.inl ⟨by rfl, mc84⟩) mc64 ?_
  refine take_ (i := 1) (N := some 6) #[true, true, true, false, false, true, false, true, false, false, false, false, false] rfl rfl (take_ofW HT_.out HW_.out kr_) (fun _ _ _ h => h) (Or.inl ⟨by rfl, mc79⟩) hHeld mc64 ?_
  refine take_ (i := 3) (N := some 8) #[true, true, true, true, false, true, false, true, false, false, false, false, false] rfl rfl (take_ofW HT_.out HW_.out kr_) (fun _ _ _ h => h) (Or.inl ⟨by rfl, mc79⟩) hHeld mc64 ?_
  refine take_ (i := 6) (N := some 11) #[true, true, true, true, false, true, true, true, false, false, false, false, false] rfl rfl (take_ofW HT_.out HW_.out kr_) (fun _ _ _ h => h) (Or.inl ⟨by rfl, mc79⟩) hHeld mc64 ?_
  refine take_ (i := 8) (N := some 13) #[true, true, true, true, false, true, true, true, true, false, false, false, false] rfl rfl (take_ofW HT_.out HW_.out kr_) (fun _ _ _ h => h) (Or.inl ⟨by rfl, mc79⟩) hHeld mc64 ?_
  refine one_ (i := 4) (N := some 9) #[true, true, true, true, true, true, true, true, true, false, false, false, false] rfl rfl (one_of HT_.out kr_) (by decide) (fun K hK => ?_)
  refine goes_ Tryz.func54 kr_ rfl #[.string a0_0, .string a1_0] (by rfl) rfl rfl mc47 ?_
  with_reducible refine (strings_Compare.calls a0_0 a1_0 t298 _ A3.out).mono ?_
  rintro e w' ⟨rfl, ⟨nd, rfl⟩⟩
  refine ⟨_, rfl, ?_⟩
  refine hK.out _ _ ⟨bc_ BK296 0 rfl, bc_ BK296 1 rfl, bc_ BK296 2 rfl, bc_ BK297 0 rfl, bc_ BK297 1 rfl, bc_ BK297 2 rfl⟩ (fun hHeld => ?_)
  clear hK K
  refine norm_ (by show Act.put _ (some 9) _ = _; simp only [Act.put, List.setIfInBounds_toArray, List.set_cons_zero, List.set_cons_succ, i64_w, i32_w]; rfl) ?_
  refine one_ (i := 9) (N := some 14) #[true, true, true, true, true, true, true, true, true, true, false, false, false] rfl rfl (one_of HT_.out kr_) (by decide) (fun K hK => ?_)
  refine goes_ Tryz.func55 kr_ rfl #[.int .i64 a0_1, .int .i64 a1_1] (by rfl) rfl rfl mc47 ?_
  with_reducible refine (cmp_Compare_int.calls a0_1 a1_1 t299 _ A4.out).mono ?_
  rintro e w' ⟨rfl, ⟨nd, rfl⟩⟩
  refine ⟨_, rfl, ?_⟩
  refine hK.out _ _ ⟨bc_ BK296 0 rfl, bc_ BK296 1 rfl, bc_ BK296 2 rfl, bc_ BK297 0 rfl, bc_ BK297 1 rfl, bc_ BK297 2 rfl⟩ (fun hHeld => ?_)
  clear hK K
  refine norm_ mc48 ?_
  refine one_ (i := 10) (N := some 15) #[true, true, true, true, true, true, true, true, true, true, true, false, false] rfl rfl (one_of HT_.out kr_) (by decide) (fun K hK => ?_)
  refine Kd.R_lit_step (Kd.int .i64) _ 3 ?hg (N := 15) ?hd (xs := ([t298, t299] : List Int)) (inner := [.int .i64 t298, .int .i64 t299]) (ok := fun _ => True) (okp := fun _ => True) ?hr ?hp (fun _ hk => hk) trivial (Below.refl _ _) (Nat.le_refl _) (by simp) ?_; (case hd => rfl); (case hg => rfl); (case hr => exact mc83); (case hp => exact (Reps.one (show Kd.M (Kd.int .i64) _ _ _ t298 [.int .i64 t298] from rfl) (Reps.one (show Kd.M (Kd.int .i64) _ _ _ t299 [.int .i64 t299] from rfl) (Reps.none _ _))))
  intro v301 w9 ho10 hb hg_ hnew_
  clear hg_ hnew_
  (first | rw [← Ny300.out] at ho10 | (simp only [Int.reduceToNat] at ho10; rw [← Ny300.out] at ho10))
  have HO302 := A_ (Kd.R_lower ho10 (below_size mc22))
  replace BK296 := A_ (blk_below mc59 hb)
  replace BK297 := A_ (blk_below (by (with_reducible repeat (first | refine blk_drewN ?_ _ | refine blk_drew ?_ | refine blk_alloc ?_ _)); exact BK297.out) hb)
  replace HB := A_ (below_step mc22 hb)
  clear hb ho10
  obtain ⟨Ao11, co11, eo11⟩ := Kd.R_slice HO302.out
  (first | subst eo11 | (injection eo11 with f1_ f2_ f3_; have f4_ := f1_.symm; have f5_ := f3_.symm; clear f1_ f2_ f3_; subst f4_; subst f5_))
  refine hK.out _ _ ⟨bc_ BK296 0 rfl, bc_ BK296 1 rfl, bc_ BK296 2 rfl, bc_ BK297 0 rfl, bc_ BK297 1 rfl, bc_ BK297 2 rfl⟩ (fun hHeld => ?_)
  clear hK K
  refine norm_ (by show Act.put _ (some 15) _ = _; simp only [Act.put, List.setIfInBounds_toArray, List.set_cons_zero, List.set_cons_succ, i64_w, i32_w]; rfl) ?_
  refine one_ (i := 11) (N := some 16) #[true, true, true, true, true, true, true, true, true, true, true, true, false] rfl rfl (one_of HT_.out kr_) (by decide) (fun K hK => ?_)
  refine goes_ Tryz.func53 kr_ rfl #[.slice Ao11 y300.length co11] (by rfl) rfl rfl mc47 ?_
  with_reducible refine (cmp_Or_int.calls k _ _ y300 t303 _ ?side1 ?side2 A5.out).mono ?_
  (case side1 => repeat (first | exact (Kd.R_reads' HO302.out).2.2 | (with_reducible refine Kd.C_alloc ?_ _) | (with_reducible refine Kd.C_drewN ?_ _) | (with_reducible refine Kd.C_drew ?_)))
  (case side2 => exact (Kd.R_reads' HO302.out).2.1)
  rintro e w' ⟨rfl, ⟨nd, rfl⟩⟩
  refine ⟨_, rfl, ?_⟩
  refine hK.out _ _ ⟨bc_ BK296 0 rfl, bc_ BK296 1 rfl, bc_ BK296 2 rfl, bc_ BK297 0 rfl, bc_ BK297 1 rfl, bc_ BK297 2 rfl⟩ (fun hHeld => ?_)
  clear hK K
  refine norm_ (by show Act.put _ (some 16) _ = _; simp only [Act.put, List.setIfInBounds_toArray, List.set_cons_zero, List.set_cons_succ, i64_w, i32_w]; rfl) ?_
  refine pure_ (i := 12) (N := some 4) #[true, true, true, true, true, true, true, true, true, true, true, true, true] rfl rfl (any_of HT_.out kr_) (fun _ _ _ h => h) (Or.inl ⟨by rfl, mc84⟩) mc64 ?_
  refine done_ (done_of HT_.out kr_) ?_
  try go_wp2
  go_ret
  exact ⟨mc76, by repeat (first | (with_reducible first | exact HB.out | apply below_alloc | apply pw_below_drewN | apply below_drew1 | refine below_set ?_ GE296.out | refine below_set ?_ GE297.out) | exact HB.out)⟩

end Go.Proofs.YtgmmanppmjlclaaGreatDoor.P
