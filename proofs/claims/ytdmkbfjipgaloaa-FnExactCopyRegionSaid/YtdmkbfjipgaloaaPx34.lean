-- Made by pp.py of this session out of the kit's print and of contracts proved by hand; Lean checks it.
import Derived.Test.YtdmkbfjipgaloaaMc
import Derived.Test.YtdmkbfjipgaloaaPx0
import Derived.Test.YtdmkbfjipgaloaaPx7
import Derived.Test.YtdmkbfjipgaloaaPx22
import Derived.Test.YtdmkbfjipgaloaaPx33
namespace Go.Proofs.Ytdmkbfjipgaloaa.P
open Go.RowKit Go.Proofs.YtdmkbfjipgaloaaW.PrintWords Go.Proofs.YtdmkbfjipgaloaaW.PrintLast Go.Proofs.YtdmkbfjipgaloaaW.PrintMore
attribute [local go_sem] max2_int min2_int max_two min_two max_three min_three max_four min_four   -- for this text's walks alone
set_option linter.unusedVariables false
set_option linter.unusedSimpArgs false

/-! ### laws_FnExactCopyRegion: function 5 -/
mutual
def laws_FnExactCopyRegion.j0 : Nat → List Int → Bool → List Int → Bool → Bool → Int → Int → List Int → Int → Int → List Int → Int → Int → List Int → Int → Int → List Int → Int → Int → List Int → Int → Int → List Int → Option (Bool)
 | 0, _, _, _, _, _, _, _, _, _, _, _, _, _, _, _, _, _, _, _, _, _, _, _ => none
 | k + 1, x2, x9, x12, x14, x64, x694000, x694001, x694002, x695000, x695001, x695002, x717000, x717001, x717002, x723000, x723001, x723002, x729000, x729001, x729002, x739000, x739001, x739002 => if x64 = true then (some false) else ((laws_toField.f k x694000 x694001 x694002).bind fun bt740 => ((laws_eqField.f k x723000 x723001 x723002 bt740.1 bt740.2.1 bt740.2.2).bind fun t745 => (if t745 = true then ((laws_toField.f k x695000 x695001 x695002).bind fun bt746 => ((laws_eqField.f k x729000 x729001 x729002 bt746.1 bt746.2.1 bt746.2.2).bind fun t751 => (if t751 = true then ((laws_toIntS.f k x2).bind fun t752 => ((laws_eqIntS.f k x12 t752).bind fun t755 => (if t755 = true then ((laws_markField.f k x723000 x723001 x723002 1).bind fun bt756 => ((laws_markField.f k x729000 x729001 x729002 bt756.1).bind fun bt758 => ((laws_markIntS.f k x12 bt758.1).bind fun bt760 => (if bt760.1 < 0 then (laws_FnExactCopyRegion.j1 k x2 x9 true x694000 x694001 x694002 x695000 x695001 x695002 x717000 x717001 x717002 x739000 x739001 x739002) else ((laws_eqField.f k x739000 x739001 x739002 x717000 x717001 x717002).bind fun t762 => (if t762 = true then (laws_FnExactCopyRegion.j1 k x2 x9 (x14 != x9) x694000 x694001 x694002 x695000 x695001 x695002 x717000 x717001 x717002 x739000 x739001 x739002) else (laws_FnExactCopyRegion.j1 k x2 x9 true x694000 x694001 x694002 x695000 x695001 x695002 x717000 x717001 x717002 x739000 x739001 x739002))))))) else (some false)))) else (some false)))) else (some false))))
def laws_FnExactCopyRegion.j1 : Nat → List Int → Bool → Bool → Int → Int → List Int → Int → Int → List Int → Int → Int → List Int → Int → Int → List Int → Option (Bool)
 | 0, _, _, _, _, _, _, _, _, _, _, _, _, _, _, _ => none
 | k + 1, x2, x9, x101, x694000, x694001, x694002, x695000, x695001, x695002, x717000, x717001, x717002, x739000, x739001, x739002 => if x101 = true then (some false) else ((laws_markField.f k x739000 x739001 x739002 1).bind fun bt763 => ((laws_heldField.f k x739000 x739001 bt763.2 1).bind fun t765 => (if t765 < 0 then (some false) else (if t765 = bt763.1 then ((laws_toField.f k x694000 x694001 x694002).bind fun bt766 => ((laws_toField.f k x695000 x695001 x695002).bind fun bt771 => ((laws_toIntS.f k x2).bind fun t776 => ((impl_CopyRegion.f k bt766.1 bt766.2.1 bt766.2.2 bt771.1 bt771.2.1 bt771.2.2 t776).bind fun bt779 => ((laws_eqField.f k bt779.1 bt779.2.1 bt779.2.2.1 x717000 x717001 x717002).bind fun t786 => (if t786 = true then (laws_FnExactCopyRegion.j2 k bt763.1 (bt779.2.2.2 != x9) x739000 x739001 bt763.2) else (laws_FnExactCopyRegion.j2 k bt763.1 true x739000 x739001 bt763.2))))))) else (some false)))))
def laws_FnExactCopyRegion.j2 : Nat → Int → Bool → Int → Int → List Int → Option (Bool)
 | 0, _, _, _, _, _ => none
 | k + 1, x16, x131, x739000, x739001, x739002 => if x131 = true then (some false) else ((laws_heldField.f k x739000 x739001 x739002 1).bind fun t787 => (if t787 < 0 then (some false) else (if t787 = x16 then (some true) else (some false))))
end
def laws_FnExactCopyRegion.f (k : Nat) (a0_0 : Int) (a0_1 : Int) (l0_2 : List Int) (a1_0 : Int) (a1_1 : Int) (l1_2 : List Int) (l2 : List Int) : Option (Bool) := if (l2.length : Int) > 1048576 then (some true) else ((laws_szField.f a0_0 a0_1 l0_2 1048576).bind fun t695 => (if t695 < 0 then (some true) else ((laws_szField.f a1_0 a1_1 l1_2 t695).bind fun t696 => (if t696 < 0 then (some true) else ((laws_toField.f k a0_0 a0_1 l0_2).bind fun bt697 => ((laws_toField.f k a1_0 a1_1 l1_2).bind fun bt702 => ((laws_toIntS.f k l2).bind fun t707 => ((spec_CopyRegion.f k bt697.1 bt697.2.1 bt697.2.2 bt702.1 bt702.2.1 bt702.2.2 t707).bind fun bt710 => ((laws_toField.f k a0_0 a0_1 l0_2).bind fun bt717 => ((laws_toField.f k a1_0 a1_1 l1_2).bind fun bt723 => ((laws_toIntS.f k l2).bind fun t729 => ((impl_CopyRegion.f k bt717.1 bt717.2.1 bt717.2.2 bt723.1 bt723.2.1 bt723.2.2 t729).bind fun bt732 => ((laws_eqField.f k bt732.1 bt732.2.1 bt732.2.2.1 bt710.1 bt710.2.1 bt710.2.2.1).bind fun t739 => (if t739 = true then (laws_FnExactCopyRegion.j0 k l2 bt710.2.2.2 t729 bt732.2.2.2 (bt732.2.2.2 != bt710.2.2.2) a0_0 a0_1 l0_2 a1_0 a1_1 l1_2 bt710.1 bt710.2.1 bt710.2.2.1 bt717.1 bt717.2.1 bt717.2.2 bt723.1 bt723.2.1 bt723.2.2 bt732.1 bt732.2.1 bt732.2.2.1) else (laws_FnExactCopyRegion.j0 k l2 bt710.2.2.2 t729 bt732.2.2.2 true a0_0 a0_1 l0_2 a1_0 a1_1 l1_2 bt710.1 bt710.2.1 bt710.2.2.1 bt717.1 bt717.2.1 bt717.2.2 bt723.1 bt723.2.1 bt723.2.2 bt732.1 bt732.2.1 bt732.2.2.1)))))))))))))))
theorem laws_FnExactCopyRegion.mono_l : ∀ k, (∀ y0 y1 y2 y3 y4 y5 y6 y7 y8 y9 y10 y11 y12 y13 y14 y15 y16 y17 y18 y19 y20 y21 y22, LeO (laws_FnExactCopyRegion.j0 k y0 y1 y2 y3 y4 y5 y6 y7 y8 y9 y10 y11 y12 y13 y14 y15 y16 y17 y18 y19 y20 y21 y22) (laws_FnExactCopyRegion.j0 (k + 1) y0 y1 y2 y3 y4 y5 y6 y7 y8 y9 y10 y11 y12 y13 y14 y15 y16 y17 y18 y19 y20 y21 y22)) ∧ (∀ y0 y1 y2 y3 y4 y5 y6 y7 y8 y9 y10 y11 y12 y13 y14, LeO (laws_FnExactCopyRegion.j1 k y0 y1 y2 y3 y4 y5 y6 y7 y8 y9 y10 y11 y12 y13 y14) (laws_FnExactCopyRegion.j1 (k + 1) y0 y1 y2 y3 y4 y5 y6 y7 y8 y9 y10 y11 y12 y13 y14)) ∧ (∀ y0 y1 y2 y3 y4, LeO (laws_FnExactCopyRegion.j2 k y0 y1 y2 y3 y4) (laws_FnExactCopyRegion.j2 (k + 1) y0 y1 y2 y3 y4))
 | 0 => ⟨fun _ _ _ _ _ _ _ _ _ _ _ _ _ _ _ _ _ _ _ _ _ _ _ r h => by simp [laws_FnExactCopyRegion.j0] at h, fun _ _ _ _ _ _ _ _ _ _ _ _ _ _ _ r h => by simp [laws_FnExactCopyRegion.j1] at h, fun _ _ _ _ _ r h => by simp [laws_FnExactCopyRegion.j2] at h⟩
 | k + 1 => by
  obtain ⟨ih0, ih1, ih2⟩ := laws_FnExactCopyRegion.mono_l k
  refine ⟨?_, ?_, ?_⟩
  ·
   intro y0 y1 y2 y3 y4 y5 y6 y7 y8 y9 y10 y11 y12 y13 y14 y15 y16 y17 y18 y19 y20 y21 y22
   unfold laws_FnExactCopyRegion.j0
   repeat' first
   | (with_reducible exact ih0 _ _ _ _ _ _ _ _ _ _ _ _ _ _ _ _ _ _ _ _ _ _ _)
   | (with_reducible exact ih1 _ _ _ _ _ _ _ _ _ _ _ _ _ _ _)
   | (with_reducible exact ih2 _ _ _ _ _)
   | (with_reducible exact impl_CopyRegion.mono _ _ _ _ _ _ _ _)
   | (with_reducible exact laws_eqField.mono _ _ _ _ _ _ _)
   | (with_reducible exact laws_eqIntS.mono _ _ _)
   | (with_reducible exact laws_heldField.mono _ _ _ _ _)
   | (with_reducible exact laws_markField.mono _ _ _ _ _)
   | (with_reducible exact laws_markIntS.mono _ _ _)
   | (with_reducible exact laws_toField.mono _ _ _ _)
   | (with_reducible exact laws_toIntS.mono _ _)
   | (with_reducible exact spec_CopyRegion.mono _ _ _ _ _ _ _ _)
   | (with_reducible exact LeO.refl _)
   | (with_reducible exact LeO.none _)
   | (with_reducible refine LeO.ite ?_ ?_)
   | (with_reducible refine LeO.bind ?_ (fun _ => ?_))
   | exact ih0 _ _ _ _ _ _ _ _ _ _ _ _ _ _ _ _ _ _ _ _ _ _ _
   | exact ih1 _ _ _ _ _ _ _ _ _ _ _ _ _ _ _
   | exact ih2 _ _ _ _ _
   | exact impl_CopyRegion.mono _ _ _ _ _ _ _ _
   | exact laws_eqField.mono _ _ _ _ _ _ _
   | exact laws_eqIntS.mono _ _ _
   | exact laws_heldField.mono _ _ _ _ _
   | exact laws_markField.mono _ _ _ _ _
   | exact laws_markIntS.mono _ _ _
   | exact laws_toField.mono _ _ _ _
   | exact laws_toIntS.mono _ _
   | exact spec_CopyRegion.mono _ _ _ _ _ _ _ _
   | exact LeO.none _
   | refine LeO.ite ?_ ?_
   | refine LeO.bind ?_ (fun _ => ?_)
  ·
   intro y0 y1 y2 y3 y4 y5 y6 y7 y8 y9 y10 y11 y12 y13 y14
   unfold laws_FnExactCopyRegion.j1
   repeat' first
   | (with_reducible exact ih0 _ _ _ _ _ _ _ _ _ _ _ _ _ _ _ _ _ _ _ _ _ _ _)
   | (with_reducible exact ih1 _ _ _ _ _ _ _ _ _ _ _ _ _ _ _)
   | (with_reducible exact ih2 _ _ _ _ _)
   | (with_reducible exact impl_CopyRegion.mono _ _ _ _ _ _ _ _)
   | (with_reducible exact laws_eqField.mono _ _ _ _ _ _ _)
   | (with_reducible exact laws_eqIntS.mono _ _ _)
   | (with_reducible exact laws_heldField.mono _ _ _ _ _)
   | (with_reducible exact laws_markField.mono _ _ _ _ _)
   | (with_reducible exact laws_markIntS.mono _ _ _)
   | (with_reducible exact laws_toField.mono _ _ _ _)
   | (with_reducible exact laws_toIntS.mono _ _)
   | (with_reducible exact spec_CopyRegion.mono _ _ _ _ _ _ _ _)
   | (with_reducible exact LeO.refl _)
   | (with_reducible exact LeO.none _)
   | (with_reducible refine LeO.ite ?_ ?_)
   | (with_reducible refine LeO.bind ?_ (fun _ => ?_))
   | exact ih0 _ _ _ _ _ _ _ _ _ _ _ _ _ _ _ _ _ _ _ _ _ _ _
   | exact ih1 _ _ _ _ _ _ _ _ _ _ _ _ _ _ _
   | exact ih2 _ _ _ _ _
   | exact impl_CopyRegion.mono _ _ _ _ _ _ _ _
   | exact laws_eqField.mono _ _ _ _ _ _ _
   | exact laws_eqIntS.mono _ _ _
   | exact laws_heldField.mono _ _ _ _ _
   | exact laws_markField.mono _ _ _ _ _
   | exact laws_markIntS.mono _ _ _
   | exact laws_toField.mono _ _ _ _
   | exact laws_toIntS.mono _ _
   | exact spec_CopyRegion.mono _ _ _ _ _ _ _ _
   | exact LeO.none _
   | refine LeO.ite ?_ ?_
   | refine LeO.bind ?_ (fun _ => ?_)
  ·
   intro y0 y1 y2 y3 y4
   unfold laws_FnExactCopyRegion.j2
   repeat' first
   | (with_reducible exact ih0 _ _ _ _ _ _ _ _ _ _ _ _ _ _ _ _ _ _ _ _ _ _ _)
   | (with_reducible exact ih1 _ _ _ _ _ _ _ _ _ _ _ _ _ _ _)
   | (with_reducible exact ih2 _ _ _ _ _)
   | (with_reducible exact impl_CopyRegion.mono _ _ _ _ _ _ _ _)
   | (with_reducible exact laws_eqField.mono _ _ _ _ _ _ _)
   | (with_reducible exact laws_eqIntS.mono _ _ _)
   | (with_reducible exact laws_heldField.mono _ _ _ _ _)
   | (with_reducible exact laws_markField.mono _ _ _ _ _)
   | (with_reducible exact laws_markIntS.mono _ _ _)
   | (with_reducible exact laws_toField.mono _ _ _ _)
   | (with_reducible exact laws_toIntS.mono _ _)
   | (with_reducible exact spec_CopyRegion.mono _ _ _ _ _ _ _ _)
   | (with_reducible exact LeO.refl _)
   | (with_reducible exact LeO.none _)
   | (with_reducible refine LeO.ite ?_ ?_)
   | (with_reducible refine LeO.bind ?_ (fun _ => ?_))
   | exact ih0 _ _ _ _ _ _ _ _ _ _ _ _ _ _ _ _ _ _ _ _ _ _ _
   | exact ih1 _ _ _ _ _ _ _ _ _ _ _ _ _ _ _
   | exact ih2 _ _ _ _ _
   | exact impl_CopyRegion.mono _ _ _ _ _ _ _ _
   | exact laws_eqField.mono _ _ _ _ _ _ _
   | exact laws_eqIntS.mono _ _ _
   | exact laws_heldField.mono _ _ _ _ _
   | exact laws_markField.mono _ _ _ _ _
   | exact laws_markIntS.mono _ _ _
   | exact laws_toField.mono _ _ _ _
   | exact laws_toIntS.mono _ _
   | exact spec_CopyRegion.mono _ _ _ _ _ _ _ _
   | exact LeO.none _
   | refine LeO.ite ?_ ?_
   | refine LeO.bind ?_ (fun _ => ?_)
theorem laws_FnExactCopyRegion.mono : ∀ a0 a1 a2 a3 a4 a5 a6 k, LeO (laws_FnExactCopyRegion.f k a0 a1 a2 a3 a4 a5 a6) (laws_FnExactCopyRegion.f (k + 1) a0 a1 a2 a3 a4 a5 a6) := by
 intro a0 a1 a2 a3 a4 a5 a6 k
 obtain ⟨ih0, ih1, ih2⟩ := laws_FnExactCopyRegion.mono_l k
 unfold laws_FnExactCopyRegion.f
 repeat' first
  | (with_reducible exact ih0 _ _ _ _ _ _ _ _ _ _ _ _ _ _ _ _ _ _ _ _ _ _ _)
  | (with_reducible exact ih1 _ _ _ _ _ _ _ _ _ _ _ _ _ _ _)
  | (with_reducible exact ih2 _ _ _ _ _)
  | (with_reducible exact impl_CopyRegion.mono _ _ _ _ _ _ _ _)
  | (with_reducible exact laws_eqField.mono _ _ _ _ _ _ _)
  | (with_reducible exact laws_eqIntS.mono _ _ _)
  | (with_reducible exact laws_heldField.mono _ _ _ _ _)
  | (with_reducible exact laws_markField.mono _ _ _ _ _)
  | (with_reducible exact laws_markIntS.mono _ _ _)
  | (with_reducible exact laws_toField.mono _ _ _ _)
  | (with_reducible exact laws_toIntS.mono _ _)
  | (with_reducible exact spec_CopyRegion.mono _ _ _ _ _ _ _ _)
  | (with_reducible exact LeO.refl _)
  | (with_reducible exact LeO.none _)
  | (with_reducible refine LeO.ite ?_ ?_)
  | (with_reducible refine LeO.bind ?_ (fun _ => ?_))
  | exact ih0 _ _ _ _ _ _ _ _ _ _ _ _ _ _ _ _ _ _ _ _ _ _ _
  | exact ih1 _ _ _ _ _ _ _ _ _ _ _ _ _ _ _
  | exact ih2 _ _ _ _ _
  | exact impl_CopyRegion.mono _ _ _ _ _ _ _ _
  | exact laws_eqField.mono _ _ _ _ _ _ _
  | exact laws_eqIntS.mono _ _ _
  | exact laws_heldField.mono _ _ _ _ _
  | exact laws_markField.mono _ _ _ _ _
  | exact laws_markIntS.mono _ _ _
  | exact laws_toField.mono _ _ _ _
  | exact laws_toIntS.mono _ _
  | exact spec_CopyRegion.mono _ _ _ _ _ _ _ _
  | exact LeO.none _
  | refine LeO.ite ?_ ?_
  | refine LeO.bind ?_ (fun _ => ?_)
def laws_FnExactCopyRegion.T10 : Bool × List (List Nat × List Nat) := (true, [([], []), ([0], [0]), ([], []), ([2, 1], [2]), ([], []), ([4, 3], [4]), ([1, 3, 5, 5], [1, 3, 5]), ([6], [6]), ([7], [7]), ([7], [7]), ([], []), ([10, 8, 6, 0, 1, 2, 3, 4, 5, 6, 7, 8, 10], [8, 10]), ([9, 11, 0, 1, 2, 3, 4, 5, 6, 7, 8, 9, 10, 11], [9])])
def laws_FnExactCopyRegion.B10 : List Nat := [0, 1, 0, 7, 0, 31, 63, 127, 255, 255, 0, 1535, 4095]
theorem laws_FnExactCopyRegion.tab10 : rtab .any (opsOf Try.f5 10) = laws_FnExactCopyRegion.T10 := by kernel_rfl
theorem laws_FnExactCopyRegion.bits10 : waitsOk laws_FnExactCopyRegion.T10.2 laws_FnExactCopyRegion.B10 = true := by kernel_rfl
def laws_FnExactCopyRegion.T37 : Bool × List (List Nat × List Nat) := (true, [([], []), ([0], [0]), ([], []), ([2, 1], [2]), ([], []), ([4, 3], [4]), ([1, 3, 5, 5], [1, 3, 5]), ([6], [6]), ([7], [7]), ([7], [7]), ([], []), ([10, 8, 6, 0, 1, 2, 3, 4, 5, 6, 7, 8, 10], [8, 10]), ([9, 11, 0, 1, 2, 3, 4, 5, 6, 7, 8, 9, 10, 11], [9])])
def laws_FnExactCopyRegion.B37 : List Nat := [0, 1, 0, 7, 0, 31, 63, 127, 255, 255, 0, 1535, 4095]
theorem laws_FnExactCopyRegion.tab37 : rtab .any (opsOf Try.f5 37) = laws_FnExactCopyRegion.T37 := by kernel_rfl
theorem laws_FnExactCopyRegion.bits37 : waitsOk laws_FnExactCopyRegion.T37.2 laws_FnExactCopyRegion.B37 = true := by kernel_rfl
set_option maxHeartbeats 8000000 in
set_option maxRecDepth 100000 in
theorem laws_FnExactCopyRegion.calls (k : Nat) (a0_0 : Int) (a0_1 : Int) (A0_2 : Option Addr) (c0_2 : Nat) (l0_2 : List Int) (a1_0 : Int) (a1_1 : Int) (A1_2 : Option Addr) (c1_2 : Nat) (l1_2 : List Int) (A2 : Option Addr) (c2 : Nat) (l2 : List Int) (r : Bool) (w : World) (hr0_2 : Kd.C (Kd.int .i64) w A0_2 l0_2.length l0_2) (hc0_2 : l0_2.length ≤ c0_2) (hr1_2 : Kd.C (Kd.int .i64) w A1_2 l1_2.length l1_2) (hc1_2 : l1_2.length ≤ c1_2) (hr2 : Kd.C (Kd.int .i64) w A2 l2.length l2) (hc2 : l2.length ≤ c2) (h : laws_FnExactCopyRegion.f k a0_0 a0_1 l0_2 a1_0 a1_1 l1_2 l2 = some r) (hrt_ : r = true) :
  Calls Try.prog 5 #[.agg #[.int .i64 a0_0, .int .i64 a0_1, .slice A0_2 l0_2.length c0_2], .agg #[.int .i64 a1_0, .int .i64 a1_1, .slice A1_2 l1_2.length c1_2], .slice A2 l2.length c2] w fun e w' => e = .returned (.bool r) ∧ Below w.heap.size w w' := by
 have hu36 := Try.underlying36
 have hu26 := Try.underlying26
 have HR0_2 := Aside0.mk hr0_2
 have HC0_2 := Aside0.mk hc0_2
 clear hr0_2 hc0_2
 have HR1_2 := Aside0.mk hr1_2
 have HC1_2 := Aside0.mk hc1_2
 clear hr1_2 hc1_2
 have HR2 := Aside0.mk hr2
 have HC2 := Aside0.mk hc2
 clear hr2 hc2
 have HB := Aside0.mk (Below.refl w.heap.size w)
 have H : (if (l2.length : Int) > 1048576 then (some true) else ((laws_szField.f a0_0 a0_1 l0_2 1048576).bind fun t695 => (if t695 < 0 then (some true) else ((laws_szField.f a1_0 a1_1 l1_2 t695).bind fun t696 => (if t696 < 0 then (some true) else ((laws_toField.f k a0_0 a0_1 l0_2).bind fun bt697 => ((laws_toField.f k a1_0 a1_1 l1_2).bind fun bt702 => ((laws_toIntS.f k l2).bind fun t707 => ((spec_CopyRegion.f k bt697.1 bt697.2.1 bt697.2.2 bt702.1 bt702.2.1 bt702.2.2 t707).bind fun bt710 => ((laws_toField.f k a0_0 a0_1 l0_2).bind fun bt717 => ((laws_toField.f k a1_0 a1_1 l1_2).bind fun bt723 => ((laws_toIntS.f k l2).bind fun t729 => ((impl_CopyRegion.f k bt717.1 bt717.2.1 bt717.2.2 bt723.1 bt723.2.1 bt723.2.2 t729).bind fun bt732 => ((laws_eqField.f k bt732.1 bt732.2.1 bt732.2.2.1 bt710.1 bt710.2.1 bt710.2.2.1).bind fun t739 => (if t739 = true then (laws_FnExactCopyRegion.j0 k l2 bt710.2.2.2 t729 bt732.2.2.2 (bt732.2.2.2 != bt710.2.2.2) a0_0 a0_1 l0_2 a1_0 a1_1 l1_2 bt710.1 bt710.2.1 bt710.2.2.1 bt717.1 bt717.2.1 bt717.2.2 bt723.1 bt723.2.1 bt723.2.2 bt732.1 bt732.2.1 bt732.2.2.1) else (laws_FnExactCopyRegion.j0 k l2 bt710.2.2.2 t729 bt732.2.2.2 true a0_0 a0_1 l0_2 a1_0 a1_1 l1_2 bt710.1 bt710.2.1 bt710.2.2.1 bt717.1 bt717.2.1 bt717.2.2 bt723.1 bt723.2.1 bt723.2.2 bt732.1 bt732.2.1 bt732.2.2.1)))))))))))))))) = some r := h
 clear h
 by_cases c4 : (l2.length : Int) > 1048576
 ·
  rw [if_pos c4] at H
  have c4b0 : decide (1048576 < (l2.length : Int)) = true := decide_eq_true c4
  have c4b1 : decide (1048576 < l2.length) = true := decide_eq_true (by omega)
  clear c4
  obtain rfl := Option.some.inj H
  go_enter Try.func5, Try.ntmps5
  go_wp2_with (first | ((with_reducible refine gate_dst (N := 3) rfl ?_); refine box_event rfl (N := 3) rfl (cs := #[.int .i64 a0_0, .int .i64 a0_1, .slice A0_2 l0_2.length c0_2]) (t := 36) mc242 ?_; intro gb693 hg w5 hbox hb; have BK693 := Aside0.mk (hbox); have GW693 := Aside0.mk ((mc145 : w.heap.size ≤ gb693)); have GE693 := Aside0.mk ((mc145 : w.heap.size ≤ gb693)); replace HB := Aside0.mk (below_step mc177 hb); clear hb hbox hg) | ((with_reducible refine gate_dst (N := 4) rfl ?_); refine box_event rfl (N := 4) rfl (cs := #[.int .i64 a1_0, .int .i64 a1_1, .slice A1_2 l1_2.length c1_2]) (t := 36) mc242 ?_; intro gb694 hg w6 hbox hb; have BK694 := Aside0.mk (hbox); have GW694 := Aside0.mk ((mc105 : w.heap.size ≤ gb694)); have GE694 := Aside0.mk ((mc105 : w.heap.size ≤ gb694)); replace HB := Aside0.mk (below_step mc163 hb); have NB693_694 := Aside0.mk ((mc231 : gb693 ≠ gb694)); have NB694_693 := Aside0.mk ((mc232 : gb694 ≠ gb693)); replace BK693 := Aside0.mk (blk_below BK693.out hb); clear hb hbox hg))
  go_ret
  exact ⟨mc225, mc114⟩
 rw [if_neg c4] at H
 have c4b0 : decide (1048576 < (l2.length : Int)) = false := decide_eq_false c4
 have c4b1 : decide (1048576 < l2.length) = false := decide_eq_false (by omega)
 clear c4
 obtain ⟨t695, A70, H⟩ := oB_ H
 have A7 := Aside0.mk A70
 clear A70
 by_cases c8 : t695 < 0
 ·
  rw [if_pos c8] at H
  have c8b0 : decide (t695 < 0) = true := decide_eq_true c8
  clear c8
  obtain rfl := Option.some.inj H
  go_enter Try.func5, Try.ntmps5
  go_wp2_with (first | ((with_reducible refine gate_dst (N := 3) rfl ?_); refine box_event rfl (N := 3) rfl (cs := #[.int .i64 a0_0, .int .i64 a0_1, .slice A0_2 l0_2.length c0_2]) (t := 36) mc242 ?_; intro gb693 hg w9 hbox hb; have BK693 := Aside0.mk (hbox); have GW693 := Aside0.mk ((mc145 : w.heap.size ≤ gb693)); have GE693 := Aside0.mk ((mc145 : w.heap.size ≤ gb693)); replace HB := Aside0.mk (below_step mc177 hb); clear hb hbox hg) | ((with_reducible refine gate_dst (N := 4) rfl ?_); refine box_event rfl (N := 4) rfl (cs := #[.int .i64 a1_0, .int .i64 a1_1, .slice A1_2 l1_2.length c1_2]) (t := 36) mc242 ?_; intro gb694 hg w10 hbox hb; have BK694 := Aside0.mk (hbox); have GW694 := Aside0.mk ((mc105 : w.heap.size ≤ gb694)); have GE694 := Aside0.mk ((mc105 : w.heap.size ≤ gb694)); replace HB := Aside0.mk (below_step mc163 hb); have NB693_694 := Aside0.mk ((mc231 : gb693 ≠ gb694)); have NB694_693 := Aside0.mk ((mc232 : gb694 ≠ gb693)); replace BK693 := Aside0.mk (blk_below BK693.out hb); clear hb hbox hg; have hnb11 := NB693_694.out; have hnc11 := NB694_693.out; have hcz12_0 : w10.cell? ⟨gb693, 0, none⟩ = some (.int .i64 a0_0) := bc_ BK693 0 rfl; have hcz12_1 : w10.cell? ⟨gb693, 1, none⟩ = some (.int .i64 a0_1) := bc_ BK693 1 rfl; have hcz12_2 : w10.cell? ⟨gb693, 2, none⟩ = some (.slice A0_2 l0_2.length c0_2) := bc_ BK693 2 rfl; have hfz12_0 := blk_frozen BK693.out 0; have hfz12_1 := blk_frozen BK693.out 1; have hfz12_2 := blk_frozen BK693.out 2) | ((with_reducible refine gate_callee (f := 20) rfl ?_); refine goesL_ (some 25) rfl rfl Try.func20 (by kernel_rfl) rfl #[.agg #[.int .i64 a0_0, .int .i64 a0_1, .slice A0_2 l0_2.length c0_2], .int .i64 1048576] rfl mc173 ?_; (with_reducible refine (laws_szField.calls a0_0 a0_1 _ _ l0_2 1048576 t695 _ ?side1 ?side2 A7.out).mono ?_); (case side1 => exact mc132); (case side2 => exact HC0_2.out); rintro e w13 ⟨rfl, hb⟩; refine ⟨_, rfl, ?_⟩; replace BK693 := Aside0.mk (blk_below BK693.out hb); replace BK694 := Aside0.mk (blk_below BK694.out hb); replace HB := Aside0.mk (below_step mc114 hb); (try clear hb); (try clear hk)))
  go_ret
  exact ⟨mc225, mc114⟩
 rw [if_neg c8] at H
 have c8b0 : decide (t695 < 0) = false := decide_eq_false c8
 clear c8
 obtain ⟨t696, A140, H⟩ := oB_ H
 have A14 := Aside0.mk A140
 clear A140
 by_cases c15 : t696 < 0
 ·
  rw [if_pos c15] at H
  have c15b0 : decide (t696 < 0) = true := decide_eq_true c15
  clear c15
  obtain rfl := Option.some.inj H
  go_enter Try.func5, Try.ntmps5
  go_wp2_with (first | ((with_reducible refine gate_dst (N := 3) rfl ?_); refine box_event rfl (N := 3) rfl (cs := #[.int .i64 a0_0, .int .i64 a0_1, .slice A0_2 l0_2.length c0_2]) (t := 36) mc242 ?_; intro gb693 hg w16 hbox hb; have BK693 := Aside0.mk (hbox); have GW693 := Aside0.mk ((mc145 : w.heap.size ≤ gb693)); have GE693 := Aside0.mk ((mc145 : w.heap.size ≤ gb693)); replace HB := Aside0.mk (below_step mc177 hb); clear hb hbox hg) | ((with_reducible refine gate_dst (N := 4) rfl ?_); refine box_event rfl (N := 4) rfl (cs := #[.int .i64 a1_0, .int .i64 a1_1, .slice A1_2 l1_2.length c1_2]) (t := 36) mc242 ?_; intro gb694 hg w17 hbox hb; have BK694 := Aside0.mk (hbox); have GW694 := Aside0.mk ((mc105 : w.heap.size ≤ gb694)); have GE694 := Aside0.mk ((mc105 : w.heap.size ≤ gb694)); replace HB := Aside0.mk (below_step mc163 hb); have NB693_694 := Aside0.mk ((mc231 : gb693 ≠ gb694)); have NB694_693 := Aside0.mk ((mc232 : gb694 ≠ gb693)); replace BK693 := Aside0.mk (blk_below BK693.out hb); clear hb hbox hg; have hnb18 := NB693_694.out; have hnc18 := NB694_693.out; have hcz19_0 : w17.cell? ⟨gb693, 0, none⟩ = some (.int .i64 a0_0) := bc_ BK693 0 rfl; have hcz19_1 : w17.cell? ⟨gb693, 1, none⟩ = some (.int .i64 a0_1) := bc_ BK693 1 rfl; have hcz19_2 : w17.cell? ⟨gb693, 2, none⟩ = some (.slice A0_2 l0_2.length c0_2) := bc_ BK693 2 rfl; have hfz19_0 := blk_frozen BK693.out 0; have hfz19_1 := blk_frozen BK693.out 1; have hfz19_2 := blk_frozen BK693.out 2) | ((with_reducible refine gate_callee (f := 20) rfl ?_); refine goesL_ (some 25) rfl rfl Try.func20 (by kernel_rfl) rfl #[.agg #[.int .i64 a0_0, .int .i64 a0_1, .slice A0_2 l0_2.length c0_2], .int .i64 1048576] rfl mc173 ?_; (with_reducible refine (laws_szField.calls a0_0 a0_1 _ _ l0_2 1048576 t695 _ ?side1 ?side2 A7.out).mono ?_); (case side1 => exact mc132); (case side2 => exact HC0_2.out); rintro e w20 ⟨rfl, hb⟩; refine ⟨_, rfl, ?_⟩; replace BK693 := Aside0.mk (blk_below BK693.out hb); replace BK694 := Aside0.mk (blk_below BK694.out hb); replace HB := Aside0.mk (below_step mc114 hb); (try clear hb); (try clear hk); have hcz21_0 : w20.cell? ⟨gb694, 0, none⟩ = some (.int .i64 a1_0) := bc_ BK694 0 rfl; have hcz21_1 : w20.cell? ⟨gb694, 1, none⟩ = some (.int .i64 a1_1) := bc_ BK694 1 rfl; have hcz21_2 : w20.cell? ⟨gb694, 2, none⟩ = some (.slice A1_2 l1_2.length c1_2) := bc_ BK694 2 rfl; have hfz21_0 := blk_frozen BK694.out 0; have hfz21_1 := blk_frozen BK694.out 1; have hfz21_2 := blk_frozen BK694.out 2) | ((with_reducible refine gate_callee (f := 20) rfl ?_); refine goesL_ (some 30) rfl rfl Try.func20 (by kernel_rfl) rfl #[.agg #[.int .i64 a1_0, .int .i64 a1_1, .slice A1_2 l1_2.length c1_2], .int .i64 t695] rfl mc173 ?_; (with_reducible refine (laws_szField.calls a1_0 a1_1 _ _ l1_2 t695 t696 _ ?side1 ?side2 A14.out).mono ?_); (case side1 => exact mc133); (case side2 => exact HC1_2.out); rintro e w22 ⟨rfl, hb⟩; refine ⟨_, rfl, ?_⟩; replace BK693 := Aside0.mk (blk_below BK693.out hb); replace BK694 := Aside0.mk (blk_below BK694.out hb); replace HB := Aside0.mk (below_step mc114 hb); (try clear hb); (try clear hk)))
  go_ret
  exact ⟨mc225, mc114⟩
 rw [if_neg c15] at H
 have c15b0 : decide (t696 < 0) = false := decide_eq_false c15
 clear c15
 obtain ⟨⟨t697, t698, t699⟩, A230, H⟩ := oB_ H
 have A23 := Aside0.mk A230
 clear A230
 obtain ⟨⟨t702, t703, t704⟩, A240, H⟩ := oB_ H
 have A24 := Aside0.mk A240
 clear A240
 obtain ⟨t707, A250, H⟩ := oB_ H
 have A25 := Aside0.mk A250
 clear A250
 obtain ⟨⟨t710, t711, t712, t715⟩, A260, H⟩ := oB_ H
 have A26 := Aside0.mk A260
 clear A260
 obtain ⟨⟨t717, t718, t719⟩, A270, H⟩ := oB_ H
 have A27 := Aside0.mk A270
 clear A270
 obtain ⟨⟨t723, t724, t725⟩, A280, H⟩ := oB_ H
 have A28 := Aside0.mk A280
 clear A280
 obtain ⟨t729, A290, H⟩ := oB_ H
 have A29 := Aside0.mk A290
 clear A290
 obtain ⟨⟨t732, t733, t734, t737⟩, A300, H⟩ := oB_ H
 have A30 := Aside0.mk A300
 clear A300
 have HC31 := Aside0.mk H
 clear H
 go_enter Try.func5, Try.ntmps5
 try go_wp2_with (first | ((with_reducible refine gate_dst (N := 3) rfl ?_); refine box_event rfl (N := 3) rfl (cs := #[.int .i64 a0_0, .int .i64 a0_1, .slice A0_2 l0_2.length c0_2]) (t := 36) mc242 ?_; intro gb693 hg w32 hbox hb; have BK693 := Aside0.mk (hbox); have GW693 := Aside0.mk ((mc145 : w.heap.size ≤ gb693)); have GE693 := Aside0.mk ((mc145 : w.heap.size ≤ gb693)); replace HB := Aside0.mk (below_step mc177 hb); clear hb hbox hg) | ((with_reducible refine gate_dst (N := 4) rfl ?_); refine box_event rfl (N := 4) rfl (cs := #[.int .i64 a1_0, .int .i64 a1_1, .slice A1_2 l1_2.length c1_2]) (t := 36) mc242 ?_; intro gb694 hg w33 hbox hb; have BK694 := Aside0.mk (hbox); have GW694 := Aside0.mk ((mc105 : w.heap.size ≤ gb694)); have GE694 := Aside0.mk ((mc105 : w.heap.size ≤ gb694)); replace HB := Aside0.mk (below_step mc163 hb); have NB693_694 := Aside0.mk ((mc231 : gb693 ≠ gb694)); have NB694_693 := Aside0.mk ((mc232 : gb694 ≠ gb693)); replace BK693 := Aside0.mk (blk_below BK693.out hb); clear hb hbox hg; have hnb34 := NB693_694.out; have hnc34 := NB694_693.out; have hcz35_0 : w33.cell? ⟨gb693, 0, none⟩ = some (.int .i64 a0_0) := bc_ BK693 0 rfl; have hcz35_1 : w33.cell? ⟨gb693, 1, none⟩ = some (.int .i64 a0_1) := bc_ BK693 1 rfl; have hcz35_2 : w33.cell? ⟨gb693, 2, none⟩ = some (.slice A0_2 l0_2.length c0_2) := bc_ BK693 2 rfl; have hfz35_0 := blk_frozen BK693.out 0; have hfz35_1 := blk_frozen BK693.out 1; have hfz35_2 := blk_frozen BK693.out 2) | ((with_reducible refine gate_callee (f := 20) rfl ?_); refine goesL_ (some 25) rfl rfl Try.func20 (by kernel_rfl) rfl #[.agg #[.int .i64 a0_0, .int .i64 a0_1, .slice A0_2 l0_2.length c0_2], .int .i64 1048576] rfl mc173 ?_; (with_reducible refine (laws_szField.calls a0_0 a0_1 _ _ l0_2 1048576 t695 _ ?side1 ?side2 A7.out).mono ?_); (case side1 => exact mc132); (case side2 => exact HC0_2.out); rintro e w36 ⟨rfl, hb⟩; refine ⟨_, rfl, ?_⟩; replace BK693 := Aside0.mk (blk_below BK693.out hb); replace BK694 := Aside0.mk (blk_below BK694.out hb); replace HB := Aside0.mk (below_step mc114 hb); (try clear hb); (try clear hk); have hcz37_0 : w36.cell? ⟨gb694, 0, none⟩ = some (.int .i64 a1_0) := bc_ BK694 0 rfl; have hcz37_1 : w36.cell? ⟨gb694, 1, none⟩ = some (.int .i64 a1_1) := bc_ BK694 1 rfl; have hcz37_2 : w36.cell? ⟨gb694, 2, none⟩ = some (.slice A1_2 l1_2.length c1_2) := bc_ BK694 2 rfl; have hfz37_0 := blk_frozen BK694.out 0; have hfz37_1 := blk_frozen BK694.out 1; have hfz37_2 := blk_frozen BK694.out 2) | ((with_reducible refine gate_callee (f := 20) rfl ?_); refine goesL_ (some 30) rfl rfl Try.func20 (by kernel_rfl) rfl #[.agg #[.int .i64 a1_0, .int .i64 a1_1, .slice A1_2 l1_2.length c1_2], .int .i64 t695] rfl mc173 ?_; (with_reducible refine (laws_szField.calls a1_0 a1_1 _ _ l1_2 t695 t696 _ ?side1 ?side2 A14.out).mono ?_); (case side1 => exact mc133); (case side2 => exact HC1_2.out); rintro e w38 ⟨rfl, hb⟩; refine ⟨_, rfl, ?_⟩; replace BK693 := Aside0.mk (blk_below BK693.out hb); replace BK694 := Aside0.mk (blk_below BK694.out hb); replace HB := Aside0.mk (below_step mc114 hb); (try clear hb); (try clear hk)))
 replace BK693 := Aside0.mk (blk_drew BK693.out)
 replace BK694 := Aside0.mk (blk_drew BK694.out)
 replace HB := Aside0.mk (below_drew1 HB.out)
 refine start_ (n := 13) (S := fun w' => w'.cell? ⟨gb693, 0, none⟩ = some (.int .i64 a0_0) ∧ w'.cell? ⟨gb693, 1, none⟩ = some (.int .i64 a0_1) ∧ w'.cell? ⟨gb693, 2, none⟩ = some (.slice A0_2 l0_2.length c0_2) ∧ w'.cell? ⟨gb694, 0, none⟩ = some (.int .i64 a1_0) ∧ w'.cell? ⟨gb694, 1, none⟩ = some (.int .i64 a1_1) ∧ w'.cell? ⟨gb694, 2, none⟩ = some (.slice A1_2 l1_2.length c1_2)) (ds := []) #[false, false, false, false, false, false, false, false, false, false, false, false, false] (by kernel_rfl) rfl rfl ⟨bc_ BK693 0 rfl, bc_ BK693 1 rfl, bc_ BK693 2 rfl, bc_ BK694 0 rfl, bc_ BK694 1 rfl, bc_ BK694 2 rfl⟩ (fun hHeld => ?_); refine with_tabW laws_FnExactCopyRegion.tab10 laws_FnExactCopyRegion.bits10 (fun HT_ HW_ => ?_)
 generalize w38.drew = w39 at BK693 BK694 HB hHeld ⊢
 refine pure_ (i := 4) (N := some 38) #[false, false, false, false, true, false, false, false, false, false, false, false, false] rfl rfl (any_of HT_.out (by kernel_rfl)) (fun _ _ _ h => h) (Or.inl ⟨by rfl, mc243⟩) mc208 ?_
 refine take_ (i := 0) (N := some 34) #[true, false, false, false, true, false, false, false, false, false, false, false, false] rfl rfl (take_ofW HT_.out HW_.out (by kernel_rfl)) (fun _ _ _ h => h) (Or.inl ⟨by rfl, mc227⟩) hHeld mc208 ?_
 refine take_ (i := 2) (N := some 36) #[true, false, true, false, true, false, false, false, false, false, false, false, false] rfl rfl (take_ofW HT_.out HW_.out (by kernel_rfl)) (fun _ _ _ h => h) (Or.inl ⟨by rfl, mc227⟩) hHeld mc208 ?_
 refine join_ (σ := Value × Value × Value × Value × Nat) 2 #[true, true, true, true, true, true, true, true, true, true, true, false, false] (fun s_ => [(35, .agg #[.int .i64 t697, .int .i64 t698, s_.1]), (37, .agg #[.int .i64 t702, .int .i64 t703, s_.2.1]), (39, s_.2.2.1), (40, .tuple #[.agg #[.int .i64 t710, .int .i64 t711, s_.2.2.2.1], .bool t715]), (8, .pointer (some ⟨s_.2.2.2.2, 0, none⟩)), (33, .tuple #[.agg #[.int .i64 t710, .int .i64 t711, s_.2.2.2.1], .bool t715]), (41, .agg #[.int .i64 t710, .int .i64 t711, s_.2.2.2.1]), (42, .bool t715)]) (fun s_ w' => (w'.cell? ⟨gb693, 0, none⟩ = some (.int .i64 a0_0) ∧ w'.cell? ⟨gb693, 1, none⟩ = some (.int .i64 a0_1) ∧ w'.cell? ⟨gb693, 2, none⟩ = some (.slice A0_2 l0_2.length c0_2) ∧ w'.cell? ⟨gb694, 0, none⟩ = some (.int .i64 a1_0) ∧ w'.cell? ⟨gb694, 1, none⟩ = some (.int .i64 a1_1) ∧ w'.cell? ⟨gb694, 2, none⟩ = some (.slice A1_2 l1_2.length c1_2)) ∧ (Kd.R (Kd.int .i64) 3 w' w.heap.size (fun k_ => some k_ ≠ (s_.2.1 : Value).ownBlock ∧ some k_ ≠ (s_.2.2.1 : Value).ownBlock ∧ some k_ ≠ (s_.2.2.2.1 : Value).ownBlock) s_.1 t699) ∧ (Kd.R (Kd.int .i64) 3 w' w.heap.size (fun k_ => some k_ ≠ (s_.1 : Value).ownBlock ∧ some k_ ≠ (s_.2.2.1 : Value).ownBlock ∧ some k_ ≠ (s_.2.2.2.1 : Value).ownBlock) s_.2.1 t704) ∧ (Kd.R (Kd.int .i64) 3 w' w.heap.size (fun k_ => some k_ ≠ (s_.1 : Value).ownBlock ∧ some k_ ≠ (s_.2.1 : Value).ownBlock ∧ some k_ ≠ (s_.2.2.2.1 : Value).ownBlock) s_.2.2.1 t707) ∧ (Kd.R (Kd.int .i64) 3 w' w.heap.size (fun k_ => some k_ ≠ (s_.1 : Value).ownBlock ∧ some k_ ≠ (s_.2.1 : Value).ownBlock ∧ some k_ ≠ (s_.2.2.1 : Value).ownBlock) s_.2.2.2.1 t712) ∧ (w'.heap[gb693]? = some (.cells #[.int .i64 a0_0, .int .i64 a0_1, .slice A0_2 l0_2.length c0_2] 36 (0, 0))) ∧ (w'.heap[gb694]? = some (.cells #[.int .i64 a1_0, .int .i64 a1_1, .slice A1_2 l1_2.length c1_2] 36 (0, 0))) ∧ (w'.heap[s_.2.2.2.2]? = some (.cells #[.int .i64 0, .int .i64 0, .slice none 0 0] 26 (0, 0))) ∧ (w.heap.size ≤ s_.2.2.2.2) ∧ (w.heap.size ≤ s_.2.2.2.2) ∧ (gb693 ≠ s_.2.2.2.2) ∧ (s_.2.2.2.2 ≠ gb693) ∧ (gb694 ≠ s_.2.2.2.2) ∧ (s_.2.2.2.2 ≠ gb694) ∧ (Below w.heap.size w w')) ?_ ?_
 rotate_left
 ·
  intro hJ1_3_5_6_10
  refine join_ (σ := Value × Value × Value × Value) 3 #[true, true, true, true, true, true, true, true, true, true, false, false, false] (fun s_ => [(35, .agg #[.int .i64 t697, .int .i64 t698, s_.1]), (37, .agg #[.int .i64 t702, .int .i64 t703, s_.2.1]), (39, s_.2.2.1), (40, .tuple #[.agg #[.int .i64 t710, .int .i64 t711, s_.2.2.2], .bool t715]), (33, .tuple #[.agg #[.int .i64 t710, .int .i64 t711, s_.2.2.2], .bool t715]), (41, .agg #[.int .i64 t710, .int .i64 t711, s_.2.2.2]), (42, .bool t715)]) (fun s_ w' => (w'.cell? ⟨gb693, 0, none⟩ = some (.int .i64 a0_0) ∧ w'.cell? ⟨gb693, 1, none⟩ = some (.int .i64 a0_1) ∧ w'.cell? ⟨gb693, 2, none⟩ = some (.slice A0_2 l0_2.length c0_2) ∧ w'.cell? ⟨gb694, 0, none⟩ = some (.int .i64 a1_0) ∧ w'.cell? ⟨gb694, 1, none⟩ = some (.int .i64 a1_1) ∧ w'.cell? ⟨gb694, 2, none⟩ = some (.slice A1_2 l1_2.length c1_2)) ∧ (Kd.R (Kd.int .i64) 3 w' w.heap.size (fun k_ => some k_ ≠ (s_.2.1 : Value).ownBlock ∧ some k_ ≠ (s_.2.2.1 : Value).ownBlock ∧ some k_ ≠ (s_.2.2.2 : Value).ownBlock) s_.1 t699) ∧ (Kd.R (Kd.int .i64) 3 w' w.heap.size (fun k_ => some k_ ≠ (s_.1 : Value).ownBlock ∧ some k_ ≠ (s_.2.2.1 : Value).ownBlock ∧ some k_ ≠ (s_.2.2.2 : Value).ownBlock) s_.2.1 t704) ∧ (Kd.R (Kd.int .i64) 3 w' w.heap.size (fun k_ => some k_ ≠ (s_.1 : Value).ownBlock ∧ some k_ ≠ (s_.2.1 : Value).ownBlock ∧ some k_ ≠ (s_.2.2.2 : Value).ownBlock) s_.2.2.1 t707) ∧ (Kd.R (Kd.int .i64) 3 w' w.heap.size (fun k_ => some k_ ≠ (s_.1 : Value).ownBlock ∧ some k_ ≠ (s_.2.1 : Value).ownBlock ∧ some k_ ≠ (s_.2.2.1 : Value).ownBlock) s_.2.2.2 t712) ∧ (w'.heap[gb693]? = some (.cells #[.int .i64 a0_0, .int .i64 a0_1, .slice A0_2 l0_2.length c0_2] 36 (0, 0))) ∧ (w'.heap[gb694]? = some (.cells #[.int .i64 a1_0, .int .i64 a1_1, .slice A1_2 l1_2.length c1_2] 36 (0, 0))) ∧ (Below w.heap.size w w')) ?_ ?_
  rotate_left
  ·
   intro hJ1_3_5_6
   refine join_ (σ := Value × Value × Value × Nat) 6 #[true, true, true, true, true, true, false, false, false, false, true, false, false] (fun s_ => [(35, .agg #[.int .i64 t697, .int .i64 t698, s_.1]), (37, .agg #[.int .i64 t702, .int .i64 t703, s_.2.1]), (39, s_.2.2.1), (8, .pointer (some ⟨s_.2.2.2, 0, none⟩))]) (fun s_ w' => (w'.cell? ⟨gb693, 0, none⟩ = some (.int .i64 a0_0) ∧ w'.cell? ⟨gb693, 1, none⟩ = some (.int .i64 a0_1) ∧ w'.cell? ⟨gb693, 2, none⟩ = some (.slice A0_2 l0_2.length c0_2) ∧ w'.cell? ⟨gb694, 0, none⟩ = some (.int .i64 a1_0) ∧ w'.cell? ⟨gb694, 1, none⟩ = some (.int .i64 a1_1) ∧ w'.cell? ⟨gb694, 2, none⟩ = some (.slice A1_2 l1_2.length c1_2)) ∧ (Kd.R (Kd.int .i64) 3 w' w.heap.size (fun k_ => some k_ ≠ (s_.2.1 : Value).ownBlock ∧ some k_ ≠ (s_.2.2.1 : Value).ownBlock) s_.1 t699) ∧ (Kd.R (Kd.int .i64) 3 w' w.heap.size (fun k_ => some k_ ≠ (s_.1 : Value).ownBlock ∧ some k_ ≠ (s_.2.2.1 : Value).ownBlock) s_.2.1 t704) ∧ (Kd.R (Kd.int .i64) 3 w' w.heap.size (fun k_ => some k_ ≠ (s_.1 : Value).ownBlock ∧ some k_ ≠ (s_.2.1 : Value).ownBlock) s_.2.2.1 t707) ∧ (w'.heap[gb693]? = some (.cells #[.int .i64 a0_0, .int .i64 a0_1, .slice A0_2 l0_2.length c0_2] 36 (0, 0))) ∧ (w'.heap[gb694]? = some (.cells #[.int .i64 a1_0, .int .i64 a1_1, .slice A1_2 l1_2.length c1_2] 36 (0, 0))) ∧ (w'.heap[s_.2.2.2]? = some (.cells #[.int .i64 0, .int .i64 0, .slice none 0 0] 26 (0, 0))) ∧ (w.heap.size ≤ s_.2.2.2) ∧ (w.heap.size ≤ s_.2.2.2) ∧ (gb693 ≠ s_.2.2.2) ∧ (s_.2.2.2 ≠ gb693) ∧ (gb694 ≠ s_.2.2.2) ∧ (s_.2.2.2 ≠ gb694) ∧ (Below w.heap.size w w')) ?_ ?_
   rotate_left
   ·
    intro hJ1_3_5_10
    refine join_ (σ := Value × Value × Value) 7 #[true, true, true, true, true, true, false, false, false, false, false, false, false] (fun s_ => [(35, .agg #[.int .i64 t697, .int .i64 t698, s_.1]), (37, .agg #[.int .i64 t702, .int .i64 t703, s_.2.1]), (39, s_.2.2)]) (fun s_ w' => (w'.cell? ⟨gb693, 0, none⟩ = some (.int .i64 a0_0) ∧ w'.cell? ⟨gb693, 1, none⟩ = some (.int .i64 a0_1) ∧ w'.cell? ⟨gb693, 2, none⟩ = some (.slice A0_2 l0_2.length c0_2) ∧ w'.cell? ⟨gb694, 0, none⟩ = some (.int .i64 a1_0) ∧ w'.cell? ⟨gb694, 1, none⟩ = some (.int .i64 a1_1) ∧ w'.cell? ⟨gb694, 2, none⟩ = some (.slice A1_2 l1_2.length c1_2)) ∧ (Kd.R (Kd.int .i64) 3 w' w.heap.size (fun k_ => some k_ ≠ (s_.2.1 : Value).ownBlock ∧ some k_ ≠ (s_.2.2 : Value).ownBlock) s_.1 t699) ∧ (Kd.R (Kd.int .i64) 3 w' w.heap.size (fun k_ => some k_ ≠ (s_.1 : Value).ownBlock ∧ some k_ ≠ (s_.2.2 : Value).ownBlock) s_.2.1 t704) ∧ (Kd.R (Kd.int .i64) 3 w' w.heap.size (fun k_ => some k_ ≠ (s_.1 : Value).ownBlock ∧ some k_ ≠ (s_.2.1 : Value).ownBlock) s_.2.2 t707) ∧ (w'.heap[gb693]? = some (.cells #[.int .i64 a0_0, .int .i64 a0_1, .slice A0_2 l0_2.length c0_2] 36 (0, 0))) ∧ (w'.heap[gb694]? = some (.cells #[.int .i64 a1_0, .int .i64 a1_1, .slice A1_2 l1_2.length c1_2] 36 (0, 0))) ∧ (Below w.heap.size w w')) ?_ ?_
    rotate_left
    ·
     intro hJ1_3_5
     refine join_ (σ := Value × Value × Nat) 7 #[true, true, true, true, true, false, false, false, false, false, true, false, false] (fun s_ => [(35, .agg #[.int .i64 t697, .int .i64 t698, s_.1]), (37, .agg #[.int .i64 t702, .int .i64 t703, s_.2.1]), (8, .pointer (some ⟨s_.2.2, 0, none⟩))]) (fun s_ w' => (w'.cell? ⟨gb693, 0, none⟩ = some (.int .i64 a0_0) ∧ w'.cell? ⟨gb693, 1, none⟩ = some (.int .i64 a0_1) ∧ w'.cell? ⟨gb693, 2, none⟩ = some (.slice A0_2 l0_2.length c0_2) ∧ w'.cell? ⟨gb694, 0, none⟩ = some (.int .i64 a1_0) ∧ w'.cell? ⟨gb694, 1, none⟩ = some (.int .i64 a1_1) ∧ w'.cell? ⟨gb694, 2, none⟩ = some (.slice A1_2 l1_2.length c1_2)) ∧ (Kd.R (Kd.int .i64) 3 w' w.heap.size (fun k_ => some k_ ≠ (s_.2.1 : Value).ownBlock) s_.1 t699) ∧ (Kd.R (Kd.int .i64) 3 w' w.heap.size (fun k_ => some k_ ≠ (s_.1 : Value).ownBlock) s_.2.1 t704) ∧ (w'.heap[gb693]? = some (.cells #[.int .i64 a0_0, .int .i64 a0_1, .slice A0_2 l0_2.length c0_2] 36 (0, 0))) ∧ (w'.heap[gb694]? = some (.cells #[.int .i64 a1_0, .int .i64 a1_1, .slice A1_2 l1_2.length c1_2] 36 (0, 0))) ∧ (w'.heap[s_.2.2]? = some (.cells #[.int .i64 0, .int .i64 0, .slice none 0 0] 26 (0, 0))) ∧ (w.heap.size ≤ s_.2.2) ∧ (w.heap.size ≤ s_.2.2) ∧ (gb693 ≠ s_.2.2) ∧ (s_.2.2 ≠ gb693) ∧ (gb694 ≠ s_.2.2) ∧ (s_.2.2 ≠ gb694) ∧ (Below w.heap.size w w')) ?_ ?_
     rotate_left
     ·
      intro hJ1_3_10
      refine join_ (σ := Value × Value) 8 #[true, true, true, true, true, false, false, false, false, false, false, false, false] (fun s_ => [(35, .agg #[.int .i64 t697, .int .i64 t698, s_.1]), (37, .agg #[.int .i64 t702, .int .i64 t703, s_.2])]) (fun s_ w' => (w'.cell? ⟨gb693, 0, none⟩ = some (.int .i64 a0_0) ∧ w'.cell? ⟨gb693, 1, none⟩ = some (.int .i64 a0_1) ∧ w'.cell? ⟨gb693, 2, none⟩ = some (.slice A0_2 l0_2.length c0_2) ∧ w'.cell? ⟨gb694, 0, none⟩ = some (.int .i64 a1_0) ∧ w'.cell? ⟨gb694, 1, none⟩ = some (.int .i64 a1_1) ∧ w'.cell? ⟨gb694, 2, none⟩ = some (.slice A1_2 l1_2.length c1_2)) ∧ (Kd.R (Kd.int .i64) 3 w' w.heap.size (fun k_ => some k_ ≠ (s_.2 : Value).ownBlock) s_.1 t699) ∧ (Kd.R (Kd.int .i64) 3 w' w.heap.size (fun k_ => some k_ ≠ (s_.1 : Value).ownBlock) s_.2 t704) ∧ (w'.heap[gb693]? = some (.cells #[.int .i64 a0_0, .int .i64 a0_1, .slice A0_2 l0_2.length c0_2] 36 (0, 0))) ∧ (w'.heap[gb694]? = some (.cells #[.int .i64 a1_0, .int .i64 a1_1, .slice A1_2 l1_2.length c1_2] 36 (0, 0))) ∧ (Below w.heap.size w w')) ?_ ?_
      rotate_left
      ·
       intro hJ1_3
       refine join_ (σ := Value × Nat) 8 #[true, true, true, false, true, false, false, false, false, false, true, false, false] (fun s_ => [(35, .agg #[.int .i64 t697, .int .i64 t698, s_.1]), (8, .pointer (some ⟨s_.2, 0, none⟩))]) (fun s_ w' => (w'.cell? ⟨gb693, 0, none⟩ = some (.int .i64 a0_0) ∧ w'.cell? ⟨gb693, 1, none⟩ = some (.int .i64 a0_1) ∧ w'.cell? ⟨gb693, 2, none⟩ = some (.slice A0_2 l0_2.length c0_2) ∧ w'.cell? ⟨gb694, 0, none⟩ = some (.int .i64 a1_0) ∧ w'.cell? ⟨gb694, 1, none⟩ = some (.int .i64 a1_1) ∧ w'.cell? ⟨gb694, 2, none⟩ = some (.slice A1_2 l1_2.length c1_2)) ∧ (Kd.R (Kd.int .i64) 3 w' w.heap.size (fun _ => True) s_.1 t699) ∧ (w'.heap[gb693]? = some (.cells #[.int .i64 a0_0, .int .i64 a0_1, .slice A0_2 l0_2.length c0_2] 36 (0, 0))) ∧ (w'.heap[gb694]? = some (.cells #[.int .i64 a1_0, .int .i64 a1_1, .slice A1_2 l1_2.length c1_2] 36 (0, 0))) ∧ (w'.heap[s_.2]? = some (.cells #[.int .i64 0, .int .i64 0, .slice none 0 0] 26 (0, 0))) ∧ (w.heap.size ≤ s_.2) ∧ (w.heap.size ≤ s_.2) ∧ (gb693 ≠ s_.2) ∧ (s_.2 ≠ gb693) ∧ (gb694 ≠ s_.2) ∧ (s_.2 ≠ gb694) ∧ (Below w.heap.size w w')) ?_ ?_
       rotate_left
       ·
        intro hJ1_10
        refine join_ (σ := Value) 9 #[true, true, true, false, true, false, false, false, false, false, false, false, false] (fun s_ => [(35, .agg #[.int .i64 t697, .int .i64 t698, s_])]) (fun s_ w' => (w'.cell? ⟨gb693, 0, none⟩ = some (.int .i64 a0_0) ∧ w'.cell? ⟨gb693, 1, none⟩ = some (.int .i64 a0_1) ∧ w'.cell? ⟨gb693, 2, none⟩ = some (.slice A0_2 l0_2.length c0_2) ∧ w'.cell? ⟨gb694, 0, none⟩ = some (.int .i64 a1_0) ∧ w'.cell? ⟨gb694, 1, none⟩ = some (.int .i64 a1_1) ∧ w'.cell? ⟨gb694, 2, none⟩ = some (.slice A1_2 l1_2.length c1_2)) ∧ (Kd.R (Kd.int .i64) 3 w' w.heap.size (fun _ => True) s_ t699) ∧ (w'.heap[gb693]? = some (.cells #[.int .i64 a0_0, .int .i64 a0_1, .slice A0_2 l0_2.length c0_2] 36 (0, 0))) ∧ (w'.heap[gb694]? = some (.cells #[.int .i64 a1_0, .int .i64 a1_1, .slice A1_2 l1_2.length c1_2] 36 (0, 0))) ∧ (Below w.heap.size w w')) ?_ ?_
        rotate_left
        ·
         intro hJ1
         refine join_ (σ := Nat) 9 #[true, false, true, false, true, false, false, false, false, false, true, false, false] (fun s_ => [(8, .pointer (some ⟨s_, 0, none⟩))]) (fun s_ w' => (w'.cell? ⟨gb693, 0, none⟩ = some (.int .i64 a0_0) ∧ w'.cell? ⟨gb693, 1, none⟩ = some (.int .i64 a0_1) ∧ w'.cell? ⟨gb693, 2, none⟩ = some (.slice A0_2 l0_2.length c0_2) ∧ w'.cell? ⟨gb694, 0, none⟩ = some (.int .i64 a1_0) ∧ w'.cell? ⟨gb694, 1, none⟩ = some (.int .i64 a1_1) ∧ w'.cell? ⟨gb694, 2, none⟩ = some (.slice A1_2 l1_2.length c1_2)) ∧ (w'.heap[gb693]? = some (.cells #[.int .i64 a0_0, .int .i64 a0_1, .slice A0_2 l0_2.length c0_2] 36 (0, 0))) ∧ (w'.heap[gb694]? = some (.cells #[.int .i64 a1_0, .int .i64 a1_1, .slice A1_2 l1_2.length c1_2] 36 (0, 0))) ∧ (w'.heap[s_]? = some (.cells #[.int .i64 0, .int .i64 0, .slice none 0 0] 26 (0, 0))) ∧ (w.heap.size ≤ s_) ∧ (w.heap.size ≤ s_) ∧ (gb693 ≠ s_) ∧ (s_ ≠ gb693) ∧ (gb694 ≠ s_) ∧ (s_ ≠ gb694) ∧ (Below w.heap.size w w')) ?_ ?_
         rotate_left
         ·
          intro hJ10
          refine two_ (i := 1) (j := 10) (Ni := some 35) (Nj := some 8) #[true, true, true, false, true, false, false, false, false, false, false, false, false] #[true, false, true, false, true, false, false, false, false, false, true, false, false] rfl rfl rfl rfl (two_of HT_.out (by kernel_rfl)) (by decide) (by decide) (fun K hK => ?_) (fun K hK => ?_)
          ·
           skip
           refine goes_ Try.func22 (by kernel_rfl) rfl #[.agg #[.int .i64 a0_0, .int .i64 a0_1, .slice A0_2 l0_2.length c0_2]] (by rfl) rfl rfl mc173 ?_
           with_reducible refine (laws_toField.calls k a0_0 a0_1 _ _ l0_2 t697 t698 t699 _ ?side1 ?side2 A23.out).mono ?_
           (case side1 => exact mc132)
           (case side2 => exact HC0_2.out)
           rintro e w40 ⟨v700, rfl, ho0, hb⟩
           refine ⟨_, rfl, ?_⟩
           have HO701 := Aside0.mk (Kd.R_lower ho0 (below_size mc114))
           replace BK693 := Aside0.mk (blk_below BK693.out hb)
           replace BK694 := Aside0.mk (blk_below BK694.out hb)
           replace HB := Aside0.mk (below_step mc114 hb)
           (try clear hb)
           (try clear hb2)
           (try clear hk)
           (try clear hi)
           (try clear ho0)
           refine hK.out _ _ ⟨bc_ BK693 0 rfl, bc_ BK693 1 rfl, bc_ BK693 2 rfl, bc_ BK694 0 rfl, bc_ BK694 1 rfl, bc_ BK694 2 rfl⟩ (fun hHeld => ?_)
           clear hK K
           refine norm_ (by show Act.put _ (some 35) _ = _; simp only [Act.put, List.setIfInBounds_toArray, List.set_cons_zero, List.set_cons_succ, i64_w, i32_w]; rfl) ?_
           exact norm_ mc85 (hJ1 (v700) _ ⟨hHeld, mc212, BK693.out, BK694.out, mc114⟩)
          skip
          refine box_step ?hg (N := 8) ?hd (cs := #[.int .i64 0, .int .i64 0, .slice none 0 0]) (t := 26) ?hr ?_; (case hd => rfl); (case hg => rfl); (case hr => exact mc242)
          intro gb716 hg w40 hbox hb
          have BK716 := Aside0.mk (hbox)
          have GW716 := Aside0.mk ((mc70 : w.heap.size ≤ gb716))
          have GE716 := Aside0.mk ((mc70 : w.heap.size ≤ gb716))
          replace HB := Aside0.mk (below_step mc114 hb)
          have NB693_716 := Aside0.mk ((mc231 : gb693 ≠ gb716))
          have NB716_693 := Aside0.mk ((mc232 : gb716 ≠ gb693))
          replace BK693 := Aside0.mk (blk_below BK693.out hb)
          have NB694_716 := Aside0.mk ((mc233 : gb694 ≠ gb716))
          have NB716_694 := Aside0.mk ((mc234 : gb716 ≠ gb694))
          replace BK694 := Aside0.mk (blk_below BK694.out hb)
          clear hb hbox hg
          refine hK.out _ _ ⟨bc_ BK693 0 rfl, bc_ BK693 1 rfl, bc_ BK693 2 rfl, bc_ BK694 0 rfl, bc_ BK694 1 rfl, bc_ BK694 2 rfl⟩ (fun hHeld => ?_)
          clear hK K
          refine norm_ mc176 ?_
          exact norm_ mc85 (hJ10 (gb716) _ ⟨hHeld, BK693.out, BK694.out, BK716.out, GW716.out, GE716.out, NB693_716.out, NB716_693.out, NB694_716.out, NB716_694.out, mc74⟩)
         ·
          skip
          rintro gb716 w41 ⟨hS_, h0_, h1_, h2_, h3_, h4_, h5_, h6_, h7_, h8_, h9_⟩
          try dsimp only at h0_ h1_ h2_ h3_ h4_ h5_ h6_ h7_ h8_ h9_
          replace BK693 := Aside0.mk h0_
          replace BK694 := Aside0.mk h1_
          have BK716 := Aside0.mk h2_
          have GW716 := Aside0.mk h3_
          have GE716 := Aside0.mk h4_
          have NB693_716 := Aside0.mk h5_
          have NB716_693 := Aside0.mk h6_
          have NB694_716 := Aside0.mk h7_
          have NB716_694 := Aside0.mk h8_
          replace HB := Aside0.mk h9_
          clear h0_ h1_ h2_ h3_ h4_ h5_ h6_ h7_ h8_ h9_
          have hHeld : w41.cell? ⟨gb693, 0, none⟩ = some (.int .i64 a0_0) ∧ w41.cell? ⟨gb693, 1, none⟩ = some (.int .i64 a0_1) ∧ w41.cell? ⟨gb693, 2, none⟩ = some (.slice A0_2 l0_2.length c0_2) ∧ w41.cell? ⟨gb694, 0, none⟩ = some (.int .i64 a1_0) ∧ w41.cell? ⟨gb694, 1, none⟩ = some (.int .i64 a1_1) ∧ w41.cell? ⟨gb694, 2, none⟩ = some (.slice A1_2 l1_2.length c1_2) := hS_
          refine norm_ (a' := ?_) ?_ ?_
          rotate_left
          ·
           simp only [putAll, Act.put, List.setIfInBounds_toArray, List.set_cons_zero, List.set_cons_succ]
           rfl
          refine one_ (i := 1) (N := some 35) #[true, true, true, false, true, false, false, false, false, false, true, false, false] rfl rfl (one_of HT_.out (by kernel_rfl)) (by decide) (fun K hK => ?_)
          refine goes_ Try.func22 (by kernel_rfl) rfl #[.agg #[.int .i64 a0_0, .int .i64 a0_1, .slice A0_2 l0_2.length c0_2]] (by rfl) rfl rfl mc173 ?_
          with_reducible refine (laws_toField.calls k a0_0 a0_1 _ _ l0_2 t697 t698 t699 _ ?side1 ?side2 A23.out).mono ?_
          (case side1 => exact mc132)
          (case side2 => exact HC0_2.out)
          rintro e w42 ⟨v700, rfl, ho0, hb⟩
          refine ⟨_, rfl, ?_⟩
          have HO701 := Aside0.mk (Kd.R_lower ho0 (below_size mc74))
          replace BK693 := Aside0.mk (blk_below BK693.out hb)
          replace BK694 := Aside0.mk (blk_below BK694.out hb)
          replace BK716 := Aside0.mk (blk_below BK716.out hb)
          replace HB := Aside0.mk (below_step mc74 hb)
          (try clear hb)
          (try clear hb2)
          (try clear hk)
          (try clear hi)
          (try clear ho0)
          refine hK.out _ _ ⟨bc_ BK693 0 rfl, bc_ BK693 1 rfl, bc_ BK693 2 rfl, bc_ BK694 0 rfl, bc_ BK694 1 rfl, bc_ BK694 2 rfl⟩ (fun hHeld => ?_)
          clear hK K
          refine norm_ (by show Act.put _ (some 35) _ = _; simp only [Act.put, List.setIfInBounds_toArray, List.set_cons_zero, List.set_cons_succ, i64_w, i32_w]; rfl) ?_
          exact norm_ mc85 (hJ1_10 (v700, gb716) _ ⟨hHeld, mc212, BK693.out, BK694.out, BK716.out, GW716.out, GE716.out, NB693_716.out, NB716_693.out, NB694_716.out, NB716_694.out, mc74⟩)
        ·
         skip
         rintro v700 w41 ⟨hS_, h0_, h1_, h2_, h3_⟩
         try dsimp only at h0_ h1_ h2_ h3_
         have HO701 := Aside0.mk h0_
         replace BK693 := Aside0.mk h1_
         replace BK694 := Aside0.mk h2_
         replace HB := Aside0.mk h3_
         clear h0_ h1_ h2_ h3_
         have hHeld : w41.cell? ⟨gb693, 0, none⟩ = some (.int .i64 a0_0) ∧ w41.cell? ⟨gb693, 1, none⟩ = some (.int .i64 a0_1) ∧ w41.cell? ⟨gb693, 2, none⟩ = some (.slice A0_2 l0_2.length c0_2) ∧ w41.cell? ⟨gb694, 0, none⟩ = some (.int .i64 a1_0) ∧ w41.cell? ⟨gb694, 1, none⟩ = some (.int .i64 a1_1) ∧ w41.cell? ⟨gb694, 2, none⟩ = some (.slice A1_2 l1_2.length c1_2) := hS_
         refine norm_ (a' := ?_) ?_ ?_
         rotate_left
         ·
          simp only [putAll, Act.put, List.setIfInBounds_toArray, List.set_cons_zero, List.set_cons_succ]
          rfl
         refine two_ (i := 3) (j := 10) (Ni := some 37) (Nj := some 8) #[true, true, true, true, true, false, false, false, false, false, false, false, false] #[true, true, true, false, true, false, false, false, false, false, true, false, false] rfl rfl rfl rfl (two_of HT_.out (by kernel_rfl)) (by decide) (by decide) (fun K hK => ?_) (fun K hK => ?_)
         ·
          skip
          refine goes_ Try.func22 (by kernel_rfl) rfl #[.agg #[.int .i64 a1_0, .int .i64 a1_1, .slice A1_2 l1_2.length c1_2]] (by rfl) rfl rfl mc173 ?_
          with_reducible refine (laws_toField.calls k a1_0 a1_1 _ _ l1_2 t702 t703 t704 _ ?side1 ?side2 A24.out).mono ?_
          (case side1 => exact mc133)
          (case side2 => exact HC1_2.out)
          rintro e w42 ⟨v705, rfl, ho0, hb⟩
          refine ⟨_, rfl, ?_⟩
          have HO706 := Aside0.mk (Kd.R_lower (Kd.R_new' ho0 (Kd.R_lt mc212)) (below_size mc114))
          replace HO701 := Aside0.mk (Kd.R_elder' mc212 (Kd.R_base ho0) hb)
          replace BK693 := Aside0.mk (blk_below BK693.out hb)
          replace BK694 := Aside0.mk (blk_below BK694.out hb)
          replace HB := Aside0.mk (below_step mc114 hb)
          (try clear hb)
          (try clear hb2)
          (try clear hk)
          (try clear hi)
          (try clear ho0)
          refine hK.out _ _ ⟨bc_ BK693 0 rfl, bc_ BK693 1 rfl, bc_ BK693 2 rfl, bc_ BK694 0 rfl, bc_ BK694 1 rfl, bc_ BK694 2 rfl⟩ (fun hHeld => ?_)
          clear hK K
          refine norm_ (by show Act.put _ (some 37) _ = _; simp only [Act.put, List.setIfInBounds_toArray, List.set_cons_zero, List.set_cons_succ, i64_w, i32_w]; rfl) ?_
          exact norm_ mc85 (hJ1_3 (v700, v705) _ ⟨hHeld, (by (with_reducible repeat (first | apply Kd.R_alloc | apply Kd.R_drewN | apply Kd.R_drew)); exact Kd.R_mono HO701.out (fun _ hk => hk.2)), (by (with_reducible repeat (first | apply Kd.R_alloc | apply Kd.R_drewN | apply Kd.R_drew)); exact Kd.R_mono HO706.out (fun _ hk => hk.2)), BK693.out, BK694.out, mc114⟩)
         skip
         refine box_step ?hg (N := 8) ?hd (cs := #[.int .i64 0, .int .i64 0, .slice none 0 0]) (t := 26) ?hr ?_; (case hd => rfl); (case hg => rfl); (case hr => exact mc242)
         intro gb716 hg w42 hbox hb
         replace HO701 := Aside0.mk (Kd.R_below mc212 hb)
         have BK716 := Aside0.mk (hbox)
         have GW716 := Aside0.mk ((mc70 : w.heap.size ≤ gb716))
         have GE716 := Aside0.mk ((mc70 : w.heap.size ≤ gb716))
         replace HB := Aside0.mk (below_step mc114 hb)
         have NB693_716 := Aside0.mk ((mc231 : gb693 ≠ gb716))
         have NB716_693 := Aside0.mk ((mc232 : gb716 ≠ gb693))
         replace BK693 := Aside0.mk (blk_below BK693.out hb)
         have NB694_716 := Aside0.mk ((mc233 : gb694 ≠ gb716))
         have NB716_694 := Aside0.mk ((mc234 : gb716 ≠ gb694))
         replace BK694 := Aside0.mk (blk_below BK694.out hb)
         clear hb hbox hg
         refine hK.out _ _ ⟨bc_ BK693 0 rfl, bc_ BK693 1 rfl, bc_ BK693 2 rfl, bc_ BK694 0 rfl, bc_ BK694 1 rfl, bc_ BK694 2 rfl⟩ (fun hHeld => ?_)
         clear hK K
         refine norm_ mc176 ?_
         exact norm_ mc85 (hJ1_10 (v700, gb716) _ ⟨hHeld, mc212, BK693.out, BK694.out, BK716.out, GW716.out, GE716.out, NB693_716.out, NB716_693.out, NB694_716.out, NB716_694.out, mc74⟩)
       ·
        skip
        rintro ⟨v700, gb716⟩ w42 ⟨hS_, h0_, h1_, h2_, h3_, h4_, h5_, h6_, h7_, h8_, h9_, h10_⟩
        try dsimp only at h0_ h1_ h2_ h3_ h4_ h5_ h6_ h7_ h8_ h9_ h10_
        have HO701 := Aside0.mk h0_
        replace BK693 := Aside0.mk h1_
        replace BK694 := Aside0.mk h2_
        have BK716 := Aside0.mk h3_
        have GW716 := Aside0.mk h4_
        have GE716 := Aside0.mk h5_
        have NB693_716 := Aside0.mk h6_
        have NB716_693 := Aside0.mk h7_
        have NB694_716 := Aside0.mk h8_
        have NB716_694 := Aside0.mk h9_
        replace HB := Aside0.mk h10_
        clear h0_ h1_ h2_ h3_ h4_ h5_ h6_ h7_ h8_ h9_ h10_
        have hHeld : w42.cell? ⟨gb693, 0, none⟩ = some (.int .i64 a0_0) ∧ w42.cell? ⟨gb693, 1, none⟩ = some (.int .i64 a0_1) ∧ w42.cell? ⟨gb693, 2, none⟩ = some (.slice A0_2 l0_2.length c0_2) ∧ w42.cell? ⟨gb694, 0, none⟩ = some (.int .i64 a1_0) ∧ w42.cell? ⟨gb694, 1, none⟩ = some (.int .i64 a1_1) ∧ w42.cell? ⟨gb694, 2, none⟩ = some (.slice A1_2 l1_2.length c1_2) := hS_
        refine norm_ (a' := ?_) ?_ ?_
        rotate_left
        ·
         simp only [putAll, Act.put, List.setIfInBounds_toArray, List.set_cons_zero, List.set_cons_succ]
         rfl
        refine one_ (i := 3) (N := some 37) #[true, true, true, true, true, false, false, false, false, false, true, false, false] rfl rfl (one_of HT_.out (by kernel_rfl)) (by decide) (fun K hK => ?_)
        refine goes_ Try.func22 (by kernel_rfl) rfl #[.agg #[.int .i64 a1_0, .int .i64 a1_1, .slice A1_2 l1_2.length c1_2]] (by rfl) rfl rfl mc173 ?_
        with_reducible refine (laws_toField.calls k a1_0 a1_1 _ _ l1_2 t702 t703 t704 _ ?side1 ?side2 A24.out).mono ?_
        (case side1 => exact mc133)
        (case side2 => exact HC1_2.out)
        rintro e w43 ⟨v705, rfl, ho0, hb⟩
        refine ⟨_, rfl, ?_⟩
        have HO706 := Aside0.mk (Kd.R_lower (Kd.R_new' ho0 (Kd.R_lt mc212)) (below_size mc74))
        replace HO701 := Aside0.mk (Kd.R_elder' mc212 (Kd.R_base ho0) hb)
        replace BK693 := Aside0.mk (blk_below BK693.out hb)
        replace BK694 := Aside0.mk (blk_below BK694.out hb)
        replace BK716 := Aside0.mk (blk_below BK716.out hb)
        replace HB := Aside0.mk (below_step mc74 hb)
        (try clear hb)
        (try clear hb2)
        (try clear hk)
        (try clear hi)
        (try clear ho0)
        refine hK.out _ _ ⟨bc_ BK693 0 rfl, bc_ BK693 1 rfl, bc_ BK693 2 rfl, bc_ BK694 0 rfl, bc_ BK694 1 rfl, bc_ BK694 2 rfl⟩ (fun hHeld => ?_)
        clear hK K
        refine norm_ (by show Act.put _ (some 37) _ = _; simp only [Act.put, List.setIfInBounds_toArray, List.set_cons_zero, List.set_cons_succ, i64_w, i32_w]; rfl) ?_
        exact norm_ mc85 (hJ1_3_10 (v700, v705, gb716) _ ⟨hHeld, (by (with_reducible repeat (first | apply Kd.R_alloc | apply Kd.R_drewN | apply Kd.R_drew)); exact Kd.R_mono HO701.out (fun _ hk => hk.2)), (by (with_reducible repeat (first | apply Kd.R_alloc | apply Kd.R_drewN | apply Kd.R_drew)); exact Kd.R_mono HO706.out (fun _ hk => hk.2)), BK693.out, BK694.out, BK716.out, GW716.out, GE716.out, NB693_716.out, NB716_693.out, NB694_716.out, NB716_694.out, mc74⟩)
      ·
       skip
       rintro ⟨v700, v705⟩ w42 ⟨hS_, h0_, h1_, h2_, h3_, h4_⟩
       try dsimp only at h0_ h1_ h2_ h3_ h4_
       have HO701 := Aside0.mk h0_
       have HO706 := Aside0.mk h1_
       replace BK693 := Aside0.mk h2_
       replace BK694 := Aside0.mk h3_
       replace HB := Aside0.mk h4_
       clear h0_ h1_ h2_ h3_ h4_
       have hHeld : w42.cell? ⟨gb693, 0, none⟩ = some (.int .i64 a0_0) ∧ w42.cell? ⟨gb693, 1, none⟩ = some (.int .i64 a0_1) ∧ w42.cell? ⟨gb693, 2, none⟩ = some (.slice A0_2 l0_2.length c0_2) ∧ w42.cell? ⟨gb694, 0, none⟩ = some (.int .i64 a1_0) ∧ w42.cell? ⟨gb694, 1, none⟩ = some (.int .i64 a1_1) ∧ w42.cell? ⟨gb694, 2, none⟩ = some (.slice A1_2 l1_2.length c1_2) := hS_
       refine norm_ (a' := ?_) ?_ ?_
       rotate_left
       ·
        simp only [putAll, Act.put, List.setIfInBounds_toArray, List.set_cons_zero, List.set_cons_succ]
        rfl
       refine two_ (i := 5) (j := 10) (Ni := some 39) (Nj := some 8) #[true, true, true, true, true, true, false, false, false, false, false, false, false] #[true, true, true, true, true, false, false, false, false, false, true, false, false] rfl rfl rfl rfl (two_of HT_.out (by kernel_rfl)) (by decide) (by decide) (fun K hK => ?_) (fun K hK => ?_)
       ·
        skip
        refine goes_ Try.func23 (by kernel_rfl) rfl #[.slice A2 l2.length c2] (by rfl) rfl rfl mc173 ?_
        with_reducible refine (laws_toIntS.calls k _ _ l2 t707 _ ?side1 ?side2 A25.out).mono ?_
        (case side1 => exact mc134)
        (case side2 => exact HC2.out)
        rintro e w43 ⟨v708, rfl, ho0, hb⟩
        refine ⟨_, rfl, ?_⟩
        have HO709 := Aside0.mk (Kd.R_lower (Kd.R_new' (Kd.R_new' ho0 (Kd.R_lt mc212)) (Kd.R_lt mc213)) (below_size mc114))
        replace HO701 := Aside0.mk (Kd.R_elder' mc212 (Kd.R_base ho0) hb)
        replace HO706 := Aside0.mk (Kd.R_elder' mc213 (Kd.R_base ho0) hb)
        replace BK693 := Aside0.mk (blk_below BK693.out hb)
        replace BK694 := Aside0.mk (blk_below BK694.out hb)
        replace HB := Aside0.mk (below_step mc114 hb)
        (try clear hb)
        (try clear hb2)
        (try clear hk)
        (try clear hi)
        (try clear ho0)
        refine hK.out _ _ ⟨bc_ BK693 0 rfl, bc_ BK693 1 rfl, bc_ BK693 2 rfl, bc_ BK694 0 rfl, bc_ BK694 1 rfl, bc_ BK694 2 rfl⟩ (fun hHeld => ?_)
        clear hK K
        refine norm_ (by show Act.put _ (some 39) _ = _; simp only [Act.put, List.setIfInBounds_toArray, List.set_cons_zero, List.set_cons_succ, i64_w, i32_w]; rfl) ?_
        exact norm_ mc85 (hJ1_3_5 (v700, v705, v708) _ ⟨hHeld, mc212, mc213, (by (with_reducible repeat (first | apply Kd.R_alloc | apply Kd.R_drewN | apply Kd.R_drew)); exact Kd.R_mono HO709.out (fun _ hk => ⟨hk.1.2, hk.2⟩)), BK693.out, BK694.out, mc114⟩)
       skip
       refine box_step ?hg (N := 8) ?hd (cs := #[.int .i64 0, .int .i64 0, .slice none 0 0]) (t := 26) ?hr ?_; (case hd => rfl); (case hg => rfl); (case hr => exact mc242)
       intro gb716 hg w43 hbox hb
       replace HO701 := Aside0.mk (Kd.R_below mc212 hb)
       replace HO706 := Aside0.mk (Kd.R_below mc213 hb)
       have BK716 := Aside0.mk (hbox)
       have GW716 := Aside0.mk ((mc70 : w.heap.size ≤ gb716))
       have GE716 := Aside0.mk ((mc70 : w.heap.size ≤ gb716))
       replace HB := Aside0.mk (below_step mc114 hb)
       have NB693_716 := Aside0.mk ((mc231 : gb693 ≠ gb716))
       have NB716_693 := Aside0.mk ((mc232 : gb716 ≠ gb693))
       replace BK693 := Aside0.mk (blk_below BK693.out hb)
       have NB694_716 := Aside0.mk ((mc233 : gb694 ≠ gb716))
       have NB716_694 := Aside0.mk ((mc234 : gb716 ≠ gb694))
       replace BK694 := Aside0.mk (blk_below BK694.out hb)
       clear hb hbox hg
       refine hK.out _ _ ⟨bc_ BK693 0 rfl, bc_ BK693 1 rfl, bc_ BK693 2 rfl, bc_ BK694 0 rfl, bc_ BK694 1 rfl, bc_ BK694 2 rfl⟩ (fun hHeld => ?_)
       clear hK K
       refine norm_ mc176 ?_
       exact norm_ mc85 (hJ1_3_10 (v700, v705, gb716) _ ⟨hHeld, mc212, mc213, BK693.out, BK694.out, BK716.out, GW716.out, GE716.out, NB693_716.out, NB716_693.out, NB694_716.out, NB716_694.out, mc74⟩)
     ·
      skip
      rintro ⟨v700, v705, gb716⟩ w43 ⟨hS_, h0_, h1_, h2_, h3_, h4_, h5_, h6_, h7_, h8_, h9_, h10_, h11_⟩
      try dsimp only at h0_ h1_ h2_ h3_ h4_ h5_ h6_ h7_ h8_ h9_ h10_ h11_
      have HO701 := Aside0.mk h0_
      have HO706 := Aside0.mk h1_
      replace BK693 := Aside0.mk h2_
      replace BK694 := Aside0.mk h3_
      have BK716 := Aside0.mk h4_
      have GW716 := Aside0.mk h5_
      have GE716 := Aside0.mk h6_
      have NB693_716 := Aside0.mk h7_
      have NB716_693 := Aside0.mk h8_
      have NB694_716 := Aside0.mk h9_
      have NB716_694 := Aside0.mk h10_
      replace HB := Aside0.mk h11_
      clear h0_ h1_ h2_ h3_ h4_ h5_ h6_ h7_ h8_ h9_ h10_ h11_
      have hHeld : w43.cell? ⟨gb693, 0, none⟩ = some (.int .i64 a0_0) ∧ w43.cell? ⟨gb693, 1, none⟩ = some (.int .i64 a0_1) ∧ w43.cell? ⟨gb693, 2, none⟩ = some (.slice A0_2 l0_2.length c0_2) ∧ w43.cell? ⟨gb694, 0, none⟩ = some (.int .i64 a1_0) ∧ w43.cell? ⟨gb694, 1, none⟩ = some (.int .i64 a1_1) ∧ w43.cell? ⟨gb694, 2, none⟩ = some (.slice A1_2 l1_2.length c1_2) := hS_
      refine norm_ (a' := ?_) ?_ ?_
      rotate_left
      ·
       simp only [putAll, Act.put, List.setIfInBounds_toArray, List.set_cons_zero, List.set_cons_succ]
       rfl
      refine one_ (i := 5) (N := some 39) #[true, true, true, true, true, true, false, false, false, false, true, false, false] rfl rfl (one_of HT_.out (by kernel_rfl)) (by decide) (fun K hK => ?_)
      refine goes_ Try.func23 (by kernel_rfl) rfl #[.slice A2 l2.length c2] (by rfl) rfl rfl mc173 ?_
      with_reducible refine (laws_toIntS.calls k _ _ l2 t707 _ ?side1 ?side2 A25.out).mono ?_
      (case side1 => exact mc134)
      (case side2 => exact HC2.out)
      rintro e w44 ⟨v708, rfl, ho0, hb⟩
      refine ⟨_, rfl, ?_⟩
      have HO709 := Aside0.mk (Kd.R_lower (Kd.R_new' (Kd.R_new' ho0 (Kd.R_lt mc212)) (Kd.R_lt mc213)) (below_size mc74))
      replace HO701 := Aside0.mk (Kd.R_elder' mc212 (Kd.R_base ho0) hb)
      replace HO706 := Aside0.mk (Kd.R_elder' mc213 (Kd.R_base ho0) hb)
      replace BK693 := Aside0.mk (blk_below BK693.out hb)
      replace BK694 := Aside0.mk (blk_below BK694.out hb)
      replace BK716 := Aside0.mk (blk_below BK716.out hb)
      replace HB := Aside0.mk (below_step mc74 hb)
      (try clear hb)
      (try clear hb2)
      (try clear hk)
      (try clear hi)
      (try clear ho0)
      refine hK.out _ _ ⟨bc_ BK693 0 rfl, bc_ BK693 1 rfl, bc_ BK693 2 rfl, bc_ BK694 0 rfl, bc_ BK694 1 rfl, bc_ BK694 2 rfl⟩ (fun hHeld => ?_)
      clear hK K
      refine norm_ (by show Act.put _ (some 39) _ = _; simp only [Act.put, List.setIfInBounds_toArray, List.set_cons_zero, List.set_cons_succ, i64_w, i32_w]; rfl) ?_
      exact norm_ mc85 (hJ1_3_5_10 (v700, v705, v708, gb716) _ ⟨hHeld, mc212, mc213, (by (with_reducible repeat (first | apply Kd.R_alloc | apply Kd.R_drewN | apply Kd.R_drew)); exact Kd.R_mono HO709.out (fun _ hk => ⟨hk.1.2, hk.2⟩)), BK693.out, BK694.out, BK716.out, GW716.out, GE716.out, NB693_716.out, NB716_693.out, NB694_716.out, NB716_694.out, mc74⟩)
    ·
     skip
     rintro ⟨v700, v705, v708⟩ w43 ⟨hS_, h0_, h1_, h2_, h3_, h4_, h5_⟩
     try dsimp only at h0_ h1_ h2_ h3_ h4_ h5_
     have HO701 := Aside0.mk h0_
     have HO706 := Aside0.mk h1_
     have HO709 := Aside0.mk h2_
     replace BK693 := Aside0.mk h3_
     replace BK694 := Aside0.mk h4_
     replace HB := Aside0.mk h5_
     clear h0_ h1_ h2_ h3_ h4_ h5_
     have hHeld : w43.cell? ⟨gb693, 0, none⟩ = some (.int .i64 a0_0) ∧ w43.cell? ⟨gb693, 1, none⟩ = some (.int .i64 a0_1) ∧ w43.cell? ⟨gb693, 2, none⟩ = some (.slice A0_2 l0_2.length c0_2) ∧ w43.cell? ⟨gb694, 0, none⟩ = some (.int .i64 a1_0) ∧ w43.cell? ⟨gb694, 1, none⟩ = some (.int .i64 a1_1) ∧ w43.cell? ⟨gb694, 2, none⟩ = some (.slice A1_2 l1_2.length c1_2) := hS_
     obtain ⟨Ao44, co44, eo44⟩ := Kd.R_slice HO701.out
     (first | subst eo44 | (injection eo44 with f1_ f2_ f3_; have f4_ := f1_.symm; have f5_ := f3_.symm; clear f1_ f2_ f3_; subst f4_; subst f5_))
     obtain ⟨Ao45, co45, eo45⟩ := Kd.R_slice HO706.out
     (first | subst eo45 | (injection eo45 with f1_ f2_ f3_; have f4_ := f1_.symm; have f5_ := f3_.symm; clear f1_ f2_ f3_; subst f4_; subst f5_))
     obtain ⟨Ao46, co46, eo46⟩ := Kd.R_slice HO709.out
     (first | subst eo46 | (injection eo46 with f1_ f2_ f3_; have f4_ := f1_.symm; have f5_ := f3_.symm; clear f1_ f2_ f3_; subst f4_; subst f5_))
     refine norm_ (a' := ?_) ?_ ?_
     rotate_left
     ·
      simp only [putAll, Act.put, List.setIfInBounds_toArray, List.set_cons_zero, List.set_cons_succ]
      rfl
     refine two_ (i := 6) (j := 10) (Ni := some 40) (Nj := some 8) #[true, true, true, true, true, true, true, false, false, false, false, false, false] #[true, true, true, true, true, true, false, false, false, false, true, false, false] rfl rfl rfl rfl (two_of HT_.out (by kernel_rfl)) (by decide) (by decide) (fun K hK => ?_) (fun K hK => ?_)
     ·
      skip
      refine goes_ Try.func30 (by kernel_rfl) rfl #[.agg #[.int .i64 t697, .int .i64 t698, .slice Ao44 t699.length co44], .agg #[.int .i64 t702, .int .i64 t703, .slice Ao45 t704.length co45], .slice Ao46 t707.length co46] (by rfl) rfl rfl mc173 ?_
      with_reducible refine (spec_CopyRegion.calls k t697 t698 _ _ t699 t702 t703 _ _ t704 _ _ t707 t710 t711 t712 t715 _ ?side1 ?side2 ?side3 ?side4 ?side5 ?side6 A26.out).mono ?_
      (case side1 => repeat (first | exact (Kd.R_reads' HO701.out).2.2 | (with_reducible refine Kd.C_alloc ?_ _) | (with_reducible refine Kd.C_drewN ?_ _) | (with_reducible refine Kd.C_drew ?_)))
      (case side2 => exact (Kd.R_reads' HO701.out).2.1)
      (case side3 => repeat (first | exact (Kd.R_reads' HO706.out).2.2 | (with_reducible refine Kd.C_alloc ?_ _) | (with_reducible refine Kd.C_drewN ?_ _) | (with_reducible refine Kd.C_drew ?_)))
      (case side4 => exact (Kd.R_reads' HO706.out).2.1)
      (case side5 => repeat (first | exact (Kd.R_reads' HO709.out).2.2 | (with_reducible refine Kd.C_alloc ?_ _) | (with_reducible refine Kd.C_drewN ?_ _) | (with_reducible refine Kd.C_drew ?_)))
      (case side6 => exact (Kd.R_reads' HO709.out).2.1)
      rintro e w47 ⟨v713, rfl, ho0, hb⟩
      refine ⟨_, rfl, ?_⟩
      have HO714 := Aside0.mk (Kd.R_lower (Kd.R_new' (Kd.R_new' (Kd.R_new' ho0 (Kd.R_lt mc212)) (Kd.R_lt mc213)) (Kd.R_lt mc214)) (below_size mc114))
      replace HO701 := Aside0.mk (Kd.R_elder' mc212 (Kd.R_base ho0) hb)
      replace HO706 := Aside0.mk (Kd.R_elder' mc213 (Kd.R_base ho0) hb)
      replace HO709 := Aside0.mk (Kd.R_elder' mc214 (Kd.R_base ho0) hb)
      replace BK693 := Aside0.mk (blk_below BK693.out hb)
      replace BK694 := Aside0.mk (blk_below BK694.out hb)
      replace HB := Aside0.mk (below_step mc114 hb)
      (try clear hb)
      (try clear hb2)
      (try clear hk)
      (try clear hi)
      (try clear ho0)
      refine hK.out _ _ ⟨bc_ BK693 0 rfl, bc_ BK693 1 rfl, bc_ BK693 2 rfl, bc_ BK694 0 rfl, bc_ BK694 1 rfl, bc_ BK694 2 rfl⟩ (fun hHeld => ?_)
      clear hK K
      refine norm_ (by show Act.put _ (some 40) _ = _; simp only [Act.put, List.setIfInBounds_toArray, List.set_cons_zero, List.set_cons_succ, i64_w, i32_w]; rfl) ?_
      refine pure_ (i := 7) (N := some 33) #[true, true, true, true, true, true, true, true, false, false, false, false, false] rfl rfl (any_of HT_.out (by kernel_rfl)) (fun _ _ _ h => h) (Or.inl ⟨by rfl, mc243⟩) mc208 ?_
      refine pure_ (i := 8) (N := some 41) #[true, true, true, true, true, true, true, true, true, false, false, false, false] rfl rfl (any_of HT_.out (by kernel_rfl)) (fun _ _ _ h => h) (Or.inl ⟨by rfl, mc243⟩) mc208 ?_
      refine pure_ (i := 9) (N := some 42) #[true, true, true, true, true, true, true, true, true, true, false, false, false] rfl rfl (any_of HT_.out (by kernel_rfl)) (fun _ _ _ h => h) (Or.inl ⟨by rfl, mc243⟩) mc208 ?_
      exact norm_ mc85 (hJ1_3_5_6 (.slice Ao44 t699.length co44, .slice Ao45 t704.length co45, .slice Ao46 t707.length co46, v713) _ ⟨hHeld, (by (with_reducible repeat (first | apply Kd.R_alloc | apply Kd.R_drewN | apply Kd.R_drew)); exact Kd.R_mono HO701.out (fun _ hk => ⟨hk.1.1, ⟨hk.1.2, hk.2⟩⟩)), (by (with_reducible repeat (first | apply Kd.R_alloc | apply Kd.R_drewN | apply Kd.R_drew)); exact Kd.R_mono HO706.out (fun _ hk => ⟨hk.1.1, ⟨hk.1.2, hk.2⟩⟩)), (by (with_reducible repeat (first | apply Kd.R_alloc | apply Kd.R_drewN | apply Kd.R_drew)); exact Kd.R_mono HO709.out (fun _ hk => ⟨hk.1.1, ⟨hk.1.2, hk.2⟩⟩)), (by (with_reducible repeat (first | apply Kd.R_alloc | apply Kd.R_drewN | apply Kd.R_drew)); exact Kd.R_mono HO714.out (fun _ hk => ⟨hk.1.1.2, ⟨hk.1.2, hk.2⟩⟩)), BK693.out, BK694.out, mc114⟩)
     ·
      skip
      refine box_step ?hg (N := 8) ?hd (cs := #[.int .i64 0, .int .i64 0, .slice none 0 0]) (t := 26) ?hr ?_; (case hd => rfl); (case hg => rfl); (case hr => exact mc242)
      intro gb716 hg w44 hbox hb
      replace HO701 := Aside0.mk (Kd.R_below mc212 hb)
      replace HO706 := Aside0.mk (Kd.R_below mc213 hb)
      replace HO709 := Aside0.mk (Kd.R_below mc214 hb)
      have BK716 := Aside0.mk (hbox)
      have GW716 := Aside0.mk ((mc70 : w.heap.size ≤ gb716))
      have GE716 := Aside0.mk ((mc70 : w.heap.size ≤ gb716))
      replace HB := Aside0.mk (below_step mc114 hb)
      have NB693_716 := Aside0.mk ((mc231 : gb693 ≠ gb716))
      have NB716_693 := Aside0.mk ((mc232 : gb716 ≠ gb693))
      replace BK693 := Aside0.mk (blk_below BK693.out hb)
      have NB694_716 := Aside0.mk ((mc233 : gb694 ≠ gb716))
      have NB716_694 := Aside0.mk ((mc234 : gb716 ≠ gb694))
      replace BK694 := Aside0.mk (blk_below BK694.out hb)
      clear hb hbox hg
      refine hK.out _ _ ⟨bc_ BK693 0 rfl, bc_ BK693 1 rfl, bc_ BK693 2 rfl, bc_ BK694 0 rfl, bc_ BK694 1 rfl, bc_ BK694 2 rfl⟩ (fun hHeld => ?_)
      clear hK K
      refine norm_ mc176 ?_
      exact norm_ mc85 (hJ1_3_5_10 (.slice Ao44 t699.length co44, .slice Ao45 t704.length co45, .slice Ao46 t707.length co46, gb716) _ ⟨hHeld, mc212, mc213, mc214, BK693.out, BK694.out, BK716.out, GW716.out, GE716.out, NB693_716.out, NB716_693.out, NB694_716.out, NB716_694.out, mc74⟩)
   ·
    skip
    rintro ⟨v700, v705, v708, gb716⟩ w44 ⟨hS_, h0_, h1_, h2_, h3_, h4_, h5_, h6_, h7_, h8_, h9_, h10_, h11_, h12_⟩
    try dsimp only at h0_ h1_ h2_ h3_ h4_ h5_ h6_ h7_ h8_ h9_ h10_ h11_ h12_
    have HO701 := Aside0.mk h0_
    have HO706 := Aside0.mk h1_
    have HO709 := Aside0.mk h2_
    replace BK693 := Aside0.mk h3_
    replace BK694 := Aside0.mk h4_
    have BK716 := Aside0.mk h5_
    have GW716 := Aside0.mk h6_
    have GE716 := Aside0.mk h7_
    have NB693_716 := Aside0.mk h8_
    have NB716_693 := Aside0.mk h9_
    have NB694_716 := Aside0.mk h10_
    have NB716_694 := Aside0.mk h11_
    replace HB := Aside0.mk h12_
    clear h0_ h1_ h2_ h3_ h4_ h5_ h6_ h7_ h8_ h9_ h10_ h11_ h12_
    have hHeld : w44.cell? ⟨gb693, 0, none⟩ = some (.int .i64 a0_0) ∧ w44.cell? ⟨gb693, 1, none⟩ = some (.int .i64 a0_1) ∧ w44.cell? ⟨gb693, 2, none⟩ = some (.slice A0_2 l0_2.length c0_2) ∧ w44.cell? ⟨gb694, 0, none⟩ = some (.int .i64 a1_0) ∧ w44.cell? ⟨gb694, 1, none⟩ = some (.int .i64 a1_1) ∧ w44.cell? ⟨gb694, 2, none⟩ = some (.slice A1_2 l1_2.length c1_2) := hS_
    obtain ⟨Ao45, co45, eo45⟩ := Kd.R_slice HO701.out
    (first | subst eo45 | (injection eo45 with f1_ f2_ f3_; have f4_ := f1_.symm; have f5_ := f3_.symm; clear f1_ f2_ f3_; subst f4_; subst f5_))
    obtain ⟨Ao46, co46, eo46⟩ := Kd.R_slice HO706.out
    (first | subst eo46 | (injection eo46 with f1_ f2_ f3_; have f4_ := f1_.symm; have f5_ := f3_.symm; clear f1_ f2_ f3_; subst f4_; subst f5_))
    obtain ⟨Ao47, co47, eo47⟩ := Kd.R_slice HO709.out
    (first | subst eo47 | (injection eo47 with f1_ f2_ f3_; have f4_ := f1_.symm; have f5_ := f3_.symm; clear f1_ f2_ f3_; subst f4_; subst f5_))
    refine norm_ (a' := ?_) ?_ ?_
    rotate_left
    ·
     simp only [putAll, Act.put, List.setIfInBounds_toArray, List.set_cons_zero, List.set_cons_succ]
     rfl
    refine one_ (i := 6) (N := some 40) #[true, true, true, true, true, true, true, false, false, false, true, false, false] rfl rfl (one_of HT_.out (by kernel_rfl)) (by decide) (fun K hK => ?_)
    refine goes_ Try.func30 (by kernel_rfl) rfl #[.agg #[.int .i64 t697, .int .i64 t698, .slice Ao45 t699.length co45], .agg #[.int .i64 t702, .int .i64 t703, .slice Ao46 t704.length co46], .slice Ao47 t707.length co47] (by rfl) rfl rfl mc173 ?_
    with_reducible refine (spec_CopyRegion.calls k t697 t698 _ _ t699 t702 t703 _ _ t704 _ _ t707 t710 t711 t712 t715 _ ?side1 ?side2 ?side3 ?side4 ?side5 ?side6 A26.out).mono ?_
    (case side1 => repeat (first | exact (Kd.R_reads' HO701.out).2.2 | (with_reducible refine Kd.C_alloc ?_ _) | (with_reducible refine Kd.C_drewN ?_ _) | (with_reducible refine Kd.C_drew ?_)))
    (case side2 => exact (Kd.R_reads' HO701.out).2.1)
    (case side3 => repeat (first | exact (Kd.R_reads' HO706.out).2.2 | (with_reducible refine Kd.C_alloc ?_ _) | (with_reducible refine Kd.C_drewN ?_ _) | (with_reducible refine Kd.C_drew ?_)))
    (case side4 => exact (Kd.R_reads' HO706.out).2.1)
    (case side5 => repeat (first | exact (Kd.R_reads' HO709.out).2.2 | (with_reducible refine Kd.C_alloc ?_ _) | (with_reducible refine Kd.C_drewN ?_ _) | (with_reducible refine Kd.C_drew ?_)))
    (case side6 => exact (Kd.R_reads' HO709.out).2.1)
    rintro e w48 ⟨v713, rfl, ho0, hb⟩
    refine ⟨_, rfl, ?_⟩
    have HO714 := Aside0.mk (Kd.R_lower (Kd.R_new' (Kd.R_new' (Kd.R_new' ho0 (Kd.R_lt mc212)) (Kd.R_lt mc213)) (Kd.R_lt mc214)) (below_size mc74))
    replace HO701 := Aside0.mk (Kd.R_elder' mc212 (Kd.R_base ho0) hb)
    replace HO706 := Aside0.mk (Kd.R_elder' mc213 (Kd.R_base ho0) hb)
    replace HO709 := Aside0.mk (Kd.R_elder' mc214 (Kd.R_base ho0) hb)
    replace BK693 := Aside0.mk (blk_below BK693.out hb)
    replace BK694 := Aside0.mk (blk_below BK694.out hb)
    replace BK716 := Aside0.mk (blk_below BK716.out hb)
    replace HB := Aside0.mk (below_step mc74 hb)
    (try clear hb)
    (try clear hb2)
    (try clear hk)
    (try clear hi)
    (try clear ho0)
    refine hK.out _ _ ⟨bc_ BK693 0 rfl, bc_ BK693 1 rfl, bc_ BK693 2 rfl, bc_ BK694 0 rfl, bc_ BK694 1 rfl, bc_ BK694 2 rfl⟩ (fun hHeld => ?_)
    clear hK K
    refine norm_ (by show Act.put _ (some 40) _ = _; simp only [Act.put, List.setIfInBounds_toArray, List.set_cons_zero, List.set_cons_succ, i64_w, i32_w]; rfl) ?_
    refine pure_ (i := 7) (N := some 33) #[true, true, true, true, true, true, true, true, false, false, true, false, false] rfl rfl (any_of HT_.out (by kernel_rfl)) (fun _ _ _ h => h) (Or.inl ⟨by rfl, mc243⟩) mc208 ?_
    refine pure_ (i := 8) (N := some 41) #[true, true, true, true, true, true, true, true, true, false, true, false, false] rfl rfl (any_of HT_.out (by kernel_rfl)) (fun _ _ _ h => h) (Or.inl ⟨by rfl, mc243⟩) mc208 ?_
    refine pure_ (i := 9) (N := some 42) #[true, true, true, true, true, true, true, true, true, true, true, false, false] rfl rfl (any_of HT_.out (by kernel_rfl)) (fun _ _ _ h => h) (Or.inl ⟨by rfl, mc243⟩) mc208 ?_
    exact norm_ mc85 (hJ1_3_5_6_10 (.slice Ao45 t699.length co45, .slice Ao46 t704.length co46, .slice Ao47 t707.length co47, v713, gb716) _ ⟨hHeld, (by (with_reducible repeat (first | apply Kd.R_alloc | apply Kd.R_drewN | apply Kd.R_drew)); exact Kd.R_mono HO701.out (fun _ hk => ⟨hk.1.1, ⟨hk.1.2, hk.2⟩⟩)), (by (with_reducible repeat (first | apply Kd.R_alloc | apply Kd.R_drewN | apply Kd.R_drew)); exact Kd.R_mono HO706.out (fun _ hk => ⟨hk.1.1, ⟨hk.1.2, hk.2⟩⟩)), (by (with_reducible repeat (first | apply Kd.R_alloc | apply Kd.R_drewN | apply Kd.R_drew)); exact Kd.R_mono HO709.out (fun _ hk => ⟨hk.1.1, ⟨hk.1.2, hk.2⟩⟩)), (by (with_reducible repeat (first | apply Kd.R_alloc | apply Kd.R_drewN | apply Kd.R_drew)); exact Kd.R_mono HO714.out (fun _ hk => ⟨hk.1.1.2, ⟨hk.1.2, hk.2⟩⟩)), BK693.out, BK694.out, BK716.out, GW716.out, GE716.out, NB693_716.out, NB716_693.out, NB694_716.out, NB716_694.out, mc74⟩)
  ·
   skip
   rintro ⟨v700, v705, v708, v713⟩ w47 ⟨hS_, h0_, h1_, h2_, h3_, h4_, h5_, h6_⟩
   try dsimp only at h0_ h1_ h2_ h3_ h4_ h5_ h6_
   have HO701 := Aside0.mk h0_
   have HO706 := Aside0.mk h1_
   have HO709 := Aside0.mk h2_
   have HO714 := Aside0.mk h3_
   replace BK693 := Aside0.mk h4_
   replace BK694 := Aside0.mk h5_
   replace HB := Aside0.mk h6_
   clear h0_ h1_ h2_ h3_ h4_ h5_ h6_
   have hHeld : w47.cell? ⟨gb693, 0, none⟩ = some (.int .i64 a0_0) ∧ w47.cell? ⟨gb693, 1, none⟩ = some (.int .i64 a0_1) ∧ w47.cell? ⟨gb693, 2, none⟩ = some (.slice A0_2 l0_2.length c0_2) ∧ w47.cell? ⟨gb694, 0, none⟩ = some (.int .i64 a1_0) ∧ w47.cell? ⟨gb694, 1, none⟩ = some (.int .i64 a1_1) ∧ w47.cell? ⟨gb694, 2, none⟩ = some (.slice A1_2 l1_2.length c1_2) := hS_
   refine norm_ (a' := ?_) ?_ ?_
   rotate_left
   ·
    simp only [putAll, Act.put, List.setIfInBounds_toArray, List.set_cons_zero, List.set_cons_succ]
    rfl
   refine one_ (i := 10) (N := some 8) #[true, true, true, true, true, true, true, true, true, true, true, false, false] rfl rfl (one_of HT_.out (by kernel_rfl)) (by decide) (fun K hK => ?_)
   refine box_step ?hg (N := 8) ?hd (cs := #[.int .i64 0, .int .i64 0, .slice none 0 0]) (t := 26) ?hr ?_; (case hd => rfl); (case hg => rfl); (case hr => exact mc242)
   intro gb716 hg w48 hbox hb
   replace HO701 := Aside0.mk (Kd.R_below mc212 hb)
   replace HO706 := Aside0.mk (Kd.R_below mc213 hb)
   replace HO709 := Aside0.mk (Kd.R_below mc214 hb)
   replace HO714 := Aside0.mk (Kd.R_below mc215 hb)
   have BK716 := Aside0.mk (hbox)
   have GW716 := Aside0.mk ((mc70 : w.heap.size ≤ gb716))
   have GE716 := Aside0.mk ((mc70 : w.heap.size ≤ gb716))
   replace HB := Aside0.mk (below_step mc114 hb)
   have NB693_716 := Aside0.mk ((mc231 : gb693 ≠ gb716))
   have NB716_693 := Aside0.mk ((mc232 : gb716 ≠ gb693))
   replace BK693 := Aside0.mk (blk_below BK693.out hb)
   have NB694_716 := Aside0.mk ((mc233 : gb694 ≠ gb716))
   have NB716_694 := Aside0.mk ((mc234 : gb716 ≠ gb694))
   replace BK694 := Aside0.mk (blk_below BK694.out hb)
   clear hb hbox hg
   refine hK.out _ _ ⟨bc_ BK693 0 rfl, bc_ BK693 1 rfl, bc_ BK693 2 rfl, bc_ BK694 0 rfl, bc_ BK694 1 rfl, bc_ BK694 2 rfl⟩ (fun hHeld => ?_)
   clear hK K
   refine norm_ mc176 ?_
   exact norm_ mc85 (hJ1_3_5_6_10 (v700, v705, v708, v713, gb716) _ ⟨hHeld, mc212, mc213, mc214, mc215, BK693.out, BK694.out, BK716.out, GW716.out, GE716.out, NB693_716.out, NB716_693.out, NB694_716.out, NB716_694.out, mc74⟩)
 rintro ⟨v700, v705, v708, v713, gb716⟩ w48 ⟨hS_, h0_, h1_, h2_, h3_, h4_, h5_, h6_, h7_, h8_, h9_, h10_, h11_, h12_, h13_⟩
 try dsimp only at h0_ h1_ h2_ h3_ h4_ h5_ h6_ h7_ h8_ h9_ h10_ h11_ h12_ h13_
 have HO701 := Aside0.mk h0_
 have HO706 := Aside0.mk h1_
 have HO709 := Aside0.mk h2_
 have HO714 := Aside0.mk h3_
 replace BK693 := Aside0.mk h4_
 replace BK694 := Aside0.mk h5_
 have BK716 := Aside0.mk h6_
 have GW716 := Aside0.mk h7_
 have GE716 := Aside0.mk h8_
 have NB693_716 := Aside0.mk h9_
 have NB716_693 := Aside0.mk h10_
 have NB694_716 := Aside0.mk h11_
 have NB716_694 := Aside0.mk h12_
 replace HB := Aside0.mk h13_
 clear h0_ h1_ h2_ h3_ h4_ h5_ h6_ h7_ h8_ h9_ h10_ h11_ h12_ h13_
 have hHeld : w48.cell? ⟨gb693, 0, none⟩ = some (.int .i64 a0_0) ∧ w48.cell? ⟨gb693, 1, none⟩ = some (.int .i64 a0_1) ∧ w48.cell? ⟨gb693, 2, none⟩ = some (.slice A0_2 l0_2.length c0_2) ∧ w48.cell? ⟨gb694, 0, none⟩ = some (.int .i64 a1_0) ∧ w48.cell? ⟨gb694, 1, none⟩ = some (.int .i64 a1_1) ∧ w48.cell? ⟨gb694, 2, none⟩ = some (.slice A1_2 l1_2.length c1_2) := hS_
 obtain ⟨Ao51, co51, eo51⟩ := Kd.R_slice HO714.out
 (first | subst eo51 | (injection eo51 with f1_ f2_ f3_; have f4_ := f1_.symm; have f5_ := f3_.symm; clear f1_ f2_ f3_; subst f4_; subst f5_))
 refine norm_ (a' := ?_) ?_ ?_
 rotate_left
 ·
  simp only [putAll, Act.put, List.setIfInBounds_toArray, List.set_cons_zero, List.set_cons_succ]
  rfl
 refine one_ (i := 11) (N := none) #[true, true, true, true, true, true, true, true, true, true, true, true, false] rfl rfl (one_of HT_.out (by kernel_rfl)) (by decide) (fun K hK => ?_)
 have hs49 : w48.cell? ⟨gb716, 0, none⟩ = some (.int .i64 0) := bc_ BK716 0 rfl
 have hfs49 := blk_frozen BK716.out 0
 have hns49_0 := NB693_716.out
 have hns49_1 := NB694_716.out
 have hms49_0 := NB716_693.out
 have hms49_1 := NB716_694.out
 have hs50 : w48.cell? ⟨gb716, 1, none⟩ = some (.int .i64 0) := bc_ BK716 1 rfl
 have hfs50 := blk_frozen BK716.out 1
 have hns50_0 := NB693_716.out
 have hns50_1 := NB694_716.out
 have hms50_0 := NB716_693.out
 have hms50_1 := NB716_694.out
 have hs52 : w48.cell? ⟨gb716, 2, none⟩ = some (.slice none 0 0) := bc_ BK716 2 rfl
 have hfs52 := blk_frozen BK716.out 2
 have hns52_0 := NB693_716.out
 have hns52_1 := NB694_716.out
 have hms52_0 := NB716_693.out
 have hms52_1 := NB716_694.out
 refine skip_ (w1 := ?_) (by rfl) rfl ?_ ?_
 rotate_left
 ·
  go_simp
  rfl
 refine hK.out _ _ ⟨((cell_far (p := ⟨gb716, _, none⟩) NB693_716.out _).trans (((cell_far (p := ⟨gb716, _, none⟩) NB693_716.out _).trans (((cell_far (p := ⟨gb716, _, none⟩) NB693_716.out _).trans (hHeld.1)))))), ((cell_far (p := ⟨gb716, _, none⟩) NB693_716.out _).trans (((cell_far (p := ⟨gb716, _, none⟩) NB693_716.out _).trans (((cell_far (p := ⟨gb716, _, none⟩) NB693_716.out _).trans (hHeld.2.1)))))), ((cell_far (p := ⟨gb716, _, none⟩) NB693_716.out _).trans (((cell_far (p := ⟨gb716, _, none⟩) NB693_716.out _).trans (((cell_far (p := ⟨gb716, _, none⟩) NB693_716.out _).trans (hHeld.2.2.1)))))), ((cell_far (p := ⟨gb716, _, none⟩) NB694_716.out _).trans (((cell_far (p := ⟨gb716, _, none⟩) NB694_716.out _).trans (((cell_far (p := ⟨gb716, _, none⟩) NB694_716.out _).trans (hHeld.2.2.2.1)))))), ((cell_far (p := ⟨gb716, _, none⟩) NB694_716.out _).trans (((cell_far (p := ⟨gb716, _, none⟩) NB694_716.out _).trans (((cell_far (p := ⟨gb716, _, none⟩) NB694_716.out _).trans (hHeld.2.2.2.2.1)))))), ((cell_far (p := ⟨gb716, _, none⟩) NB694_716.out _).trans (((cell_far (p := ⟨gb716, _, none⟩) NB694_716.out _).trans (((cell_far (p := ⟨gb716, _, none⟩) NB694_716.out _).trans (hHeld.2.2.2.2.2))))))⟩ (fun hHeld => ?_)
 clear hK K
 refine pure_ (i := 12) (N := some 9) #[true, true, true, true, true, true, true, true, true, true, true, true, true] rfl rfl (any_of HT_.out (by kernel_rfl)) (fun _ _ _ h => h) (Or.inl ⟨by rfl, mc243⟩) mc208 ?_
 refine done_ (done_of HT_.out (by kernel_rfl)) ?_
 have hnb53 := NB693_716.out
 have hnc53 := NB716_693.out
 have hcz54_0 : w48.cell? ⟨gb693, 0, none⟩ = some (.int .i64 a0_0) := bc_ BK693 0 rfl
 have hcz54_1 : w48.cell? ⟨gb693, 1, none⟩ = some (.int .i64 a0_1) := bc_ BK693 1 rfl
 have hcz54_2 : w48.cell? ⟨gb693, 2, none⟩ = some (.slice A0_2 l0_2.length c0_2) := bc_ BK693 2 rfl
 have hfz54_0 := blk_frozen BK693.out 0
 have hfz54_1 := blk_frozen BK693.out 1
 have hfz54_2 := blk_frozen BK693.out 2
 go_upto_region 15 with (first | ((with_reducible refine gate_callee (f := 22) rfl ?_); refine goesL_ (some 44) rfl rfl Try.func22 (by kernel_rfl) rfl #[.agg #[.int .i64 a0_0, .int .i64 a0_1, .slice A0_2 l0_2.length c0_2]] rfl mc173 ?_; (with_reducible refine (laws_toField.calls k a0_0 a0_1 _ _ l0_2 t717 t718 t719 _ ?side1 ?side2 A27.out).mono ?_); (case side1 => exact Kd.C_below HR0_2.out mc74); (case side2 => exact HC0_2.out); rintro e w55 ⟨v720, rfl, ho0, hb⟩; refine ⟨_, rfl, ?_⟩; have HO721 := Aside0.mk (Kd.R_lower (Kd.R_new' (Kd.R_new' (Kd.R_new' (Kd.R_new' ho0 (Kd.R_lt mc26)) (Kd.R_lt mc27)) (Kd.R_lt mc28)) (Kd.R_lt mc29)) (below_size mc74)); replace HO701 := Aside0.mk (Kd.R_elder' mc26 (Kd.R_base ho0) hb); replace HO706 := Aside0.mk (Kd.R_elder' mc27 (Kd.R_base ho0) hb); replace HO709 := Aside0.mk (Kd.R_elder' mc28 (Kd.R_base ho0) hb); replace HO714 := Aside0.mk (Kd.R_elder' mc29 (Kd.R_base ho0) hb); replace BK693 := Aside0.mk (blk_below (g := gb693) (o := .cells #[.int .i64 a0_0, .int .i64 a0_1, .slice A0_2 l0_2.length c0_2] 36 (0, 0)) (by (with_reducible repeat (first | refine blk_drewN ?_ _ | refine blk_drew ?_ | refine blk_alloc ?_ _)); refine blk_far ?_ NB693_716.out _; (with_reducible repeat (first | refine blk_drewN ?_ _ | refine blk_drew ?_ | refine blk_alloc ?_ _)); refine blk_far ?_ NB693_716.out _; (with_reducible repeat (first | refine blk_drewN ?_ _ | refine blk_drew ?_ | refine blk_alloc ?_ _)); refine blk_far ?_ NB693_716.out _; (with_reducible repeat (first | refine blk_drewN ?_ _ | refine blk_drew ?_ | refine blk_alloc ?_ _)); exact BK693.out) hb); replace BK694 := Aside0.mk (blk_below (g := gb694) (o := .cells #[.int .i64 a1_0, .int .i64 a1_1, .slice A1_2 l1_2.length c1_2] 36 (0, 0)) (by (with_reducible repeat (first | refine blk_drewN ?_ _ | refine blk_drew ?_ | refine blk_alloc ?_ _)); refine blk_far ?_ NB694_716.out _; (with_reducible repeat (first | refine blk_drewN ?_ _ | refine blk_drew ?_ | refine blk_alloc ?_ _)); refine blk_far ?_ NB694_716.out _; (with_reducible repeat (first | refine blk_drewN ?_ _ | refine blk_drew ?_ | refine blk_alloc ?_ _)); refine blk_far ?_ NB694_716.out _; (with_reducible repeat (first | refine blk_drewN ?_ _ | refine blk_drew ?_ | refine blk_alloc ?_ _)); exact BK694.out) hb); replace BK716 := Aside0.mk (blk_below (g := gb716) (o := .cells #[.int .i64 t710, .int .i64 t711, .slice Ao51 t712.length co51] 26 (0, 0)) (by (with_reducible repeat (first | refine blk_drewN ?_ _ | refine blk_drew ?_ | refine blk_alloc ?_ _)); refine blk_put (cs := #[.int .i64 t710, .int .i64 t711, .slice none 0 0]) ?_ 2 _ rfl; (with_reducible repeat (first | refine blk_drewN ?_ _ | refine blk_drew ?_ | refine blk_alloc ?_ _)); refine blk_put (cs := #[.int .i64 t710, .int .i64 0, .slice none 0 0]) ?_ 1 _ rfl; (with_reducible repeat (first | refine blk_drewN ?_ _ | refine blk_drew ?_ | refine blk_alloc ?_ _)); refine blk_put (cs := #[.int .i64 0, .int .i64 0, .slice none 0 0]) ?_ 0 _ rfl; (with_reducible repeat (first | refine blk_drewN ?_ _ | refine blk_drew ?_ | refine blk_alloc ?_ _)); exact BK716.out) hb); replace HB := Aside0.mk (below_step mc74 hb); (try clear hb); (try clear hk); (try clear ho0)) | ((with_reducible refine gate_dst (N := 10) rfl ?_); refine box_event rfl (N := 10) rfl (cs := #[.int .i64 0, .int .i64 0, .slice none 0 0]) (t := 26) mc242 ?_; intro gb722 hg w56 hbox hb; replace HO701 := Aside0.mk (Kd.R_below mc212 hb); replace HO706 := Aside0.mk (Kd.R_below mc213 hb); replace HO709 := Aside0.mk (Kd.R_below mc214 hb); replace HO714 := Aside0.mk (Kd.R_below mc215 hb); replace HO721 := Aside0.mk (Kd.R_below mc216 hb); have BK722 := Aside0.mk (hbox); have GW722 := Aside0.mk ((mc57 : w.heap.size ≤ gb722)); have GE722 := Aside0.mk ((mc57 : w.heap.size ≤ gb722)); replace HB := Aside0.mk (below_step mc74 hb); have NB693_722 := Aside0.mk ((mc231 : gb693 ≠ gb722)); have NB722_693 := Aside0.mk ((mc232 : gb722 ≠ gb693)); replace BK693 := Aside0.mk (blk_below BK693.out hb); have NB694_722 := Aside0.mk ((mc233 : gb694 ≠ gb722)); have NB722_694 := Aside0.mk ((mc234 : gb722 ≠ gb694)); replace BK694 := Aside0.mk (blk_below BK694.out hb); have NB716_722 := Aside0.mk ((mc235 : gb716 ≠ gb722)); have NB722_716 := Aside0.mk ((mc236 : gb722 ≠ gb716)); replace BK716 := Aside0.mk (blk_below BK716.out hb); clear hb hbox hg; have hnb57 := NB722_693.out; have hnc57 := NB693_722.out; have hnb58 := NB722_694.out; have hnc58 := NB694_722.out; have hnb59 := NB722_716.out; have hnc59 := NB716_722.out; have hcz60_0 : w56.cell? ⟨gb722, 0, none⟩ = some (.int .i64 0) := bc_ BK722 0 rfl; have hcz60_1 : w56.cell? ⟨gb722, 1, none⟩ = some (.int .i64 0) := bc_ BK722 1 rfl; have hcz60_2 : w56.cell? ⟨gb722, 2, none⟩ = some (.slice none 0 0) := bc_ BK722 2 rfl; have hfz60_0 := blk_frozen BK722.out 0; have hfz60_1 := blk_frozen BK722.out 1; have hfz60_2 := blk_frozen BK722.out 2; obtain ⟨Ao61, co61, eo61⟩ := Kd.R_slice HO721.out; subst eo61; have hnb62 := NB694_716.out; have hnc62 := NB716_694.out; have hcz63_0 : w56.cell? ⟨gb694, 0, none⟩ = some (.int .i64 a1_0) := bc_ BK694 0 rfl; have hcz63_1 : w56.cell? ⟨gb694, 1, none⟩ = some (.int .i64 a1_1) := bc_ BK694 1 rfl; have hcz63_2 : w56.cell? ⟨gb694, 2, none⟩ = some (.slice A1_2 l1_2.length c1_2) := bc_ BK694 2 rfl; have hfz63_0 := blk_frozen BK694.out 0; have hfz63_1 := blk_frozen BK694.out 1; have hfz63_2 := blk_frozen BK694.out 2) | ((with_reducible refine gate_callee (f := 22) rfl ?_); refine goesL_ (some 46) rfl rfl Try.func22 (by kernel_rfl) rfl #[.agg #[.int .i64 a1_0, .int .i64 a1_1, .slice A1_2 l1_2.length c1_2]] rfl mc173 ?_; (with_reducible refine (laws_toField.calls k a1_0 a1_1 _ _ l1_2 t723 t724 t725 _ ?side1 ?side2 A28.out).mono ?_); (case side1 => exact Kd.C_below HR1_2.out mc58); (case side2 => exact HC1_2.out); rintro e w64 ⟨v726, rfl, ho0, hb⟩; refine ⟨_, rfl, ?_⟩; have HO727 := Aside0.mk (Kd.R_lower (Kd.R_new' (Kd.R_new' (Kd.R_new' (Kd.R_new' (Kd.R_new' ho0 (Kd.R_lt mc30)) (Kd.R_lt mc31)) (Kd.R_lt mc32)) (Kd.R_lt mc33)) (Kd.R_lt mc34)) (below_size mc58)); replace HO701 := Aside0.mk (Kd.R_elder' mc30 (Kd.R_base ho0) hb); replace HO706 := Aside0.mk (Kd.R_elder' mc31 (Kd.R_base ho0) hb); replace HO709 := Aside0.mk (Kd.R_elder' mc32 (Kd.R_base ho0) hb); replace HO714 := Aside0.mk (Kd.R_elder' mc33 (Kd.R_base ho0) hb); replace HO721 := Aside0.mk (Kd.R_elder' mc34 (Kd.R_base ho0) hb); replace BK693 := Aside0.mk (blk_below (g := gb693) (o := .cells #[.int .i64 a0_0, .int .i64 a0_1, .slice A0_2 l0_2.length c0_2] 36 (0, 0)) (by (with_reducible repeat (first | refine blk_drewN ?_ _ | refine blk_drew ?_ | refine blk_alloc ?_ _)); refine blk_far ?_ NB693_722.out _; (with_reducible repeat (first | refine blk_drewN ?_ _ | refine blk_drew ?_ | refine blk_alloc ?_ _)); refine blk_far ?_ NB693_722.out _; (with_reducible repeat (first | refine blk_drewN ?_ _ | refine blk_drew ?_ | refine blk_alloc ?_ _)); refine blk_far ?_ NB693_722.out _; (with_reducible repeat (first | refine blk_drewN ?_ _ | refine blk_drew ?_ | refine blk_alloc ?_ _)); exact BK693.out) hb); replace BK694 := Aside0.mk (blk_below (g := gb694) (o := .cells #[.int .i64 a1_0, .int .i64 a1_1, .slice A1_2 l1_2.length c1_2] 36 (0, 0)) (by (with_reducible repeat (first | refine blk_drewN ?_ _ | refine blk_drew ?_ | refine blk_alloc ?_ _)); refine blk_far ?_ NB694_722.out _; (with_reducible repeat (first | refine blk_drewN ?_ _ | refine blk_drew ?_ | refine blk_alloc ?_ _)); refine blk_far ?_ NB694_722.out _; (with_reducible repeat (first | refine blk_drewN ?_ _ | refine blk_drew ?_ | refine blk_alloc ?_ _)); refine blk_far ?_ NB694_722.out _; (with_reducible repeat (first | refine blk_drewN ?_ _ | refine blk_drew ?_ | refine blk_alloc ?_ _)); exact BK694.out) hb); replace BK716 := Aside0.mk (blk_below (g := gb716) (o := .cells #[.int .i64 t710, .int .i64 t711, .slice Ao51 t712.length co51] 26 (0, 0)) (by (with_reducible repeat (first | refine blk_drewN ?_ _ | refine blk_drew ?_ | refine blk_alloc ?_ _)); refine blk_far ?_ NB716_722.out _; (with_reducible repeat (first | refine blk_drewN ?_ _ | refine blk_drew ?_ | refine blk_alloc ?_ _)); refine blk_far ?_ NB716_722.out _; (with_reducible repeat (first | refine blk_drewN ?_ _ | refine blk_drew ?_ | refine blk_alloc ?_ _)); refine blk_far ?_ NB716_722.out _; (with_reducible repeat (first | refine blk_drewN ?_ _ | refine blk_drew ?_ | refine blk_alloc ?_ _)); exact BK716.out) hb); replace BK722 := Aside0.mk (blk_below (g := gb722) (o := .cells #[.int .i64 t717, .int .i64 t718, .slice Ao61 t719.length co61] 26 (0, 0)) (by (with_reducible repeat (first | refine blk_drewN ?_ _ | refine blk_drew ?_ | refine blk_alloc ?_ _)); refine blk_put (cs := #[.int .i64 t717, .int .i64 t718, .slice none 0 0]) ?_ 2 _ rfl; (with_reducible repeat (first | refine blk_drewN ?_ _ | refine blk_drew ?_ | refine blk_alloc ?_ _)); refine blk_put (cs := #[.int .i64 t717, .int .i64 0, .slice none 0 0]) ?_ 1 _ rfl; (with_reducible repeat (first | refine blk_drewN ?_ _ | refine blk_drew ?_ | refine blk_alloc ?_ _)); refine blk_put (cs := #[.int .i64 0, .int .i64 0, .slice none 0 0]) ?_ 0 _ rfl; (with_reducible repeat (first | refine blk_drewN ?_ _ | refine blk_drew ?_ | refine blk_alloc ?_ _)); exact BK722.out) hb); replace HB := Aside0.mk (below_step mc58 hb); (try clear hb); (try clear hk); (try clear ho0)) | ((with_reducible refine gate_dst (N := 11) rfl ?_); refine box_event rfl (N := 11) rfl (cs := #[.int .i64 0, .int .i64 0, .slice none 0 0]) (t := 26) mc242 ?_; intro gb728 hg w65 hbox hb; replace HO701 := Aside0.mk (Kd.R_below mc212 hb); replace HO706 := Aside0.mk (Kd.R_below mc213 hb); replace HO709 := Aside0.mk (Kd.R_below mc214 hb); replace HO714 := Aside0.mk (Kd.R_below mc215 hb); replace HO721 := Aside0.mk (Kd.R_below mc216 hb); replace HO727 := Aside0.mk (Kd.R_below mc217 hb); have BK728 := Aside0.mk (hbox); have GW728 := Aside0.mk ((mc53 : w.heap.size ≤ gb728)); have GE728 := Aside0.mk ((mc53 : w.heap.size ≤ gb728)); replace HB := Aside0.mk (below_step mc58 hb); have NB693_728 := Aside0.mk ((mc231 : gb693 ≠ gb728)); have NB728_693 := Aside0.mk ((mc232 : gb728 ≠ gb693)); replace BK693 := Aside0.mk (blk_below BK693.out hb); have NB694_728 := Aside0.mk ((mc233 : gb694 ≠ gb728)); have NB728_694 := Aside0.mk ((mc234 : gb728 ≠ gb694)); replace BK694 := Aside0.mk (blk_below BK694.out hb); have NB716_728 := Aside0.mk ((mc235 : gb716 ≠ gb728)); have NB728_716 := Aside0.mk ((mc236 : gb728 ≠ gb716)); replace BK716 := Aside0.mk (blk_below BK716.out hb); have NB722_728 := Aside0.mk ((mc237 : gb722 ≠ gb728)); have NB728_722 := Aside0.mk ((mc238 : gb728 ≠ gb722)); replace BK722 := Aside0.mk (blk_below BK722.out hb); clear hb hbox hg; have hnb66 := NB728_693.out; have hnc66 := NB693_728.out; have hnb67 := NB728_694.out; have hnc67 := NB694_728.out; have hnb68 := NB728_716.out; have hnc68 := NB716_728.out; have hnb69 := NB728_722.out; have hnc69 := NB722_728.out; have hcz70_0 : w65.cell? ⟨gb728, 0, none⟩ = some (.int .i64 0) := bc_ BK728 0 rfl; have hcz70_1 : w65.cell? ⟨gb728, 1, none⟩ = some (.int .i64 0) := bc_ BK728 1 rfl; have hcz70_2 : w65.cell? ⟨gb728, 2, none⟩ = some (.slice none 0 0) := bc_ BK728 2 rfl; have hfz70_0 := blk_frozen BK728.out 0; have hfz70_1 := blk_frozen BK728.out 1; have hfz70_2 := blk_frozen BK728.out 2; obtain ⟨Ao71, co71, eo71⟩ := Kd.R_slice HO727.out; subst eo71) | ((with_reducible refine gate_callee (f := 23) rfl ?_); refine goesL_ (some 48) rfl rfl Try.func23 (by kernel_rfl) rfl #[.slice A2 l2.length c2] rfl mc173 ?_; (with_reducible refine (laws_toIntS.calls k _ _ l2 t729 _ ?side1 ?side2 A29.out).mono ?_); (case side1 => exact Kd.C_below HR2.out mc54); (case side2 => exact HC2.out); rintro e w72 ⟨v730, rfl, ho0, hb⟩; refine ⟨_, rfl, ?_⟩; have HO731 := Aside0.mk (Kd.R_lower (Kd.R_new' (Kd.R_new' (Kd.R_new' (Kd.R_new' (Kd.R_new' (Kd.R_new' ho0 (Kd.R_lt mc35)) (Kd.R_lt mc36)) (Kd.R_lt mc37)) (Kd.R_lt mc38)) (Kd.R_lt mc39)) (Kd.R_lt mc40)) (below_size mc54)); replace HO701 := Aside0.mk (Kd.R_elder' mc35 (Kd.R_base ho0) hb); replace HO706 := Aside0.mk (Kd.R_elder' mc36 (Kd.R_base ho0) hb); replace HO709 := Aside0.mk (Kd.R_elder' mc37 (Kd.R_base ho0) hb); replace HO714 := Aside0.mk (Kd.R_elder' mc38 (Kd.R_base ho0) hb); replace HO721 := Aside0.mk (Kd.R_elder' mc39 (Kd.R_base ho0) hb); replace HO727 := Aside0.mk (Kd.R_elder' mc40 (Kd.R_base ho0) hb); replace BK693 := Aside0.mk (blk_below (g := gb693) (o := .cells #[.int .i64 a0_0, .int .i64 a0_1, .slice A0_2 l0_2.length c0_2] 36 (0, 0)) (by (with_reducible repeat (first | refine blk_drewN ?_ _ | refine blk_drew ?_ | refine blk_alloc ?_ _)); refine blk_far ?_ NB693_728.out _; (with_reducible repeat (first | refine blk_drewN ?_ _ | refine blk_drew ?_ | refine blk_alloc ?_ _)); refine blk_far ?_ NB693_728.out _; (with_reducible repeat (first | refine blk_drewN ?_ _ | refine blk_drew ?_ | refine blk_alloc ?_ _)); refine blk_far ?_ NB693_728.out _; (with_reducible repeat (first | refine blk_drewN ?_ _ | refine blk_drew ?_ | refine blk_alloc ?_ _)); exact BK693.out) hb); replace BK694 := Aside0.mk (blk_below (g := gb694) (o := .cells #[.int .i64 a1_0, .int .i64 a1_1, .slice A1_2 l1_2.length c1_2] 36 (0, 0)) (by (with_reducible repeat (first | refine blk_drewN ?_ _ | refine blk_drew ?_ | refine blk_alloc ?_ _)); refine blk_far ?_ NB694_728.out _; (with_reducible repeat (first | refine blk_drewN ?_ _ | refine blk_drew ?_ | refine blk_alloc ?_ _)); refine blk_far ?_ NB694_728.out _; (with_reducible repeat (first | refine blk_drewN ?_ _ | refine blk_drew ?_ | refine blk_alloc ?_ _)); refine blk_far ?_ NB694_728.out _; (with_reducible repeat (first | refine blk_drewN ?_ _ | refine blk_drew ?_ | refine blk_alloc ?_ _)); exact BK694.out) hb); replace BK716 := Aside0.mk (blk_below (g := gb716) (o := .cells #[.int .i64 t710, .int .i64 t711, .slice Ao51 t712.length co51] 26 (0, 0)) (by (with_reducible repeat (first | refine blk_drewN ?_ _ | refine blk_drew ?_ | refine blk_alloc ?_ _)); refine blk_far ?_ NB716_728.out _; (with_reducible repeat (first | refine blk_drewN ?_ _ | refine blk_drew ?_ | refine blk_alloc ?_ _)); refine blk_far ?_ NB716_728.out _; (with_reducible repeat (first | refine blk_drewN ?_ _ | refine blk_drew ?_ | refine blk_alloc ?_ _)); refine blk_far ?_ NB716_728.out _; (with_reducible repeat (first | refine blk_drewN ?_ _ | refine blk_drew ?_ | refine blk_alloc ?_ _)); exact BK716.out) hb); replace BK722 := Aside0.mk (blk_below (g := gb722) (o := .cells #[.int .i64 t717, .int .i64 t718, .slice Ao61 t719.length co61] 26 (0, 0)) (by (with_reducible repeat (first | refine blk_drewN ?_ _ | refine blk_drew ?_ | refine blk_alloc ?_ _)); refine blk_far ?_ NB722_728.out _; (with_reducible repeat (first | refine blk_drewN ?_ _ | refine blk_drew ?_ | refine blk_alloc ?_ _)); refine blk_far ?_ NB722_728.out _; (with_reducible repeat (first | refine blk_drewN ?_ _ | refine blk_drew ?_ | refine blk_alloc ?_ _)); refine blk_far ?_ NB722_728.out _; (with_reducible repeat (first | refine blk_drewN ?_ _ | refine blk_drew ?_ | refine blk_alloc ?_ _)); exact BK722.out) hb); replace BK728 := Aside0.mk (blk_below (g := gb728) (o := .cells #[.int .i64 t723, .int .i64 t724, .slice Ao71 t725.length co71] 26 (0, 0)) (by (with_reducible repeat (first | refine blk_drewN ?_ _ | refine blk_drew ?_ | refine blk_alloc ?_ _)); refine blk_put (cs := #[.int .i64 t723, .int .i64 t724, .slice none 0 0]) ?_ 2 _ rfl; (with_reducible repeat (first | refine blk_drewN ?_ _ | refine blk_drew ?_ | refine blk_alloc ?_ _)); refine blk_put (cs := #[.int .i64 t723, .int .i64 0, .slice none 0 0]) ?_ 1 _ rfl; (with_reducible repeat (first | refine blk_drewN ?_ _ | refine blk_drew ?_ | refine blk_alloc ?_ _)); refine blk_put (cs := #[.int .i64 0, .int .i64 0, .slice none 0 0]) ?_ 0 _ rfl; (with_reducible repeat (first | refine blk_drewN ?_ _ | refine blk_drew ?_ | refine blk_alloc ?_ _)); exact BK728.out) hb); replace HB := Aside0.mk (below_step mc54 hb); (try clear hb); (try clear hk); (try clear ho0); have hcz73_0 : w72.cell? ⟨gb722, 0, none⟩ = some (.int .i64 t717) := bc_ BK722 0 rfl; have hcz73_1 : w72.cell? ⟨gb722, 1, none⟩ = some (.int .i64 t718) := bc_ BK722 1 rfl; have hcz73_2 : w72.cell? ⟨gb722, 2, none⟩ = some (.slice Ao61 t719.length co61) := bc_ BK722 2 rfl; have hfz73_0 := blk_frozen BK722.out 0; have hfz73_1 := blk_frozen BK722.out 1; have hfz73_2 := blk_frozen BK722.out 2; have hcz74_0 : w72.cell? ⟨gb728, 0, none⟩ = some (.int .i64 t723) := bc_ BK728 0 rfl; have hcz74_1 : w72.cell? ⟨gb728, 1, none⟩ = some (.int .i64 t724) := bc_ BK728 1 rfl; have hcz74_2 : w72.cell? ⟨gb728, 2, none⟩ = some (.slice Ao71 t725.length co71) := bc_ BK728 2 rfl; have hfz74_0 := blk_frozen BK728.out 0; have hfz74_1 := blk_frozen BK728.out 1; have hfz74_2 := blk_frozen BK728.out 2; obtain ⟨Ao75, co75, eo75⟩ := Kd.R_slice HO731.out; subst eo75) | ((with_reducible refine gate_callee (f := 31) rfl ?_); refine goesL_ (some 53) rfl rfl Try.func31 (by kernel_rfl) rfl #[.agg #[.int .i64 t717, .int .i64 t718, .slice Ao61 t719.length co61], .agg #[.int .i64 t723, .int .i64 t724, .slice Ao71 t725.length co71], .slice Ao75 t729.length co75] rfl mc173 ?_; (with_reducible refine (impl_CopyRegion.calls k t717 t718 (fun k_ => some k_ = (.slice Ao61 t719.length co61 : Value).ownBlock) _ _ t719 t723 t724 (fun k_ => some k_ = (.slice Ao71 t725.length co71 : Value).ownBlock) _ _ t725 _ _ t729 t732 t733 t734 t737 _ ?side1 ?side2 ?side3 ?side4 A30.out).mono ?_); (case side1 => exact Kd.R_V (Kd.R_tight rfl (Kd.R_types (Kd.R_types (Kd.R_types (Kd.R_types (Kd.R_types (HO721.out) BK693.out (by decide)) BK694.out (by decide)) BK716.out (by decide)) BK722.out (by decide)) BK728.out (by decide)))); (case side2 => exact Kd.R_V (Kd.R_tight rfl (Kd.R_types (Kd.R_types (Kd.R_types (Kd.R_types (Kd.R_types (HO727.out) BK693.out (by decide)) BK694.out (by decide)) BK716.out (by decide)) BK722.out (by decide)) BK728.out (by decide)))); (case side3 => repeat (first | exact (Kd.R_reads' HO731.out).2.2 | (with_reducible refine Kd.C_alloc ?_ _) | (with_reducible refine Kd.C_drewN ?_ _) | (with_reducible refine Kd.C_drew ?_))); (case side4 => exact (Kd.R_reads' HO731.out).2.1); rintro e w76 ⟨v735, rfl, ho0, hb⟩; refine ⟨_, rfl, ?_⟩; have HO736 := Aside0.mk (Kd.R_lower (Kd.R_new' (Kd.R_new' (Kd.R_new' (Kd.R_new' (Kd.R_new' (Kd.R_new' (Kd.R_new' (Kd.R_mono (ok' := fun k_ => True) ho0 (fun _ hk_ => trivial)) (Kd.R_lt mc212)) (Kd.R_lt mc213)) (Kd.R_lt mc214)) (Kd.R_lt mc215)) (Kd.R_lt mc216)) (Kd.R_lt mc217)) (Kd.R_lt mc218)) (below_size mc54)); replace HO701 := Aside0.mk (Kd.R_elder' mc212 (Kd.R_base ho0) hb); replace HO706 := Aside0.mk (Kd.R_elder' mc213 (Kd.R_base ho0) hb); replace HO709 := Aside0.mk (Kd.R_elder' mc214 (Kd.R_base ho0) hb); replace HO714 := Aside0.mk (Kd.R_elder' mc215 (Kd.R_base ho0) hb); replace HO721 := Aside0.mk (Kd.R_elder' mc216 (Kd.R_base ho0) hb); replace HO727 := Aside0.mk (Kd.R_elder' mc217 (Kd.R_base ho0) hb); replace HO731 := Aside0.mk (Kd.R_elder' mc218 (Kd.R_base ho0) hb); replace BK693 := Aside0.mk (blk_below BK693.out hb); replace BK694 := Aside0.mk (blk_below BK694.out hb); replace BK716 := Aside0.mk (blk_below BK716.out hb); replace BK722 := Aside0.mk (blk_below BK722.out hb); replace BK728 := Aside0.mk (blk_below BK728.out hb); replace HB := Aside0.mk (below_step mc54 hb); (try clear hb); (try clear hk); (try clear ho0)) | ((with_reducible refine gate_dst (N := 13) rfl ?_); refine box_event rfl (N := 13) rfl (cs := #[.int .i64 0, .int .i64 0, .slice none 0 0]) (t := 26) mc242 ?_; intro gb738 hg w77 hbox hb; replace HO701 := Aside0.mk (Kd.R_below mc212 hb); replace HO706 := Aside0.mk (Kd.R_below mc213 hb); replace HO709 := Aside0.mk (Kd.R_below mc214 hb); replace HO714 := Aside0.mk (Kd.R_below mc215 hb); replace HO721 := Aside0.mk (Kd.R_below mc216 hb); replace HO727 := Aside0.mk (Kd.R_below mc217 hb); replace HO731 := Aside0.mk (Kd.R_below mc218 hb); replace HO736 := Aside0.mk (Kd.R_below (by (with_reducible repeat (first | apply Kd.R_alloc | apply Kd.R_drewN | apply Kd.R_drew)); exact HO736.out) hb); have BK738 := Aside0.mk (hbox); have GW738 := Aside0.mk ((mc51 : w.heap.size ≤ gb738)); have GE738 := Aside0.mk ((mc51 : w.heap.size ≤ gb738)); replace HB := Aside0.mk (below_step mc54 hb); have NB693_738 := Aside0.mk ((mc231 : gb693 ≠ gb738)); have NB738_693 := Aside0.mk ((mc232 : gb738 ≠ gb693)); replace BK693 := Aside0.mk (blk_below BK693.out hb); have NB694_738 := Aside0.mk ((mc233 : gb694 ≠ gb738)); have NB738_694 := Aside0.mk ((mc234 : gb738 ≠ gb694)); replace BK694 := Aside0.mk (blk_below BK694.out hb); have NB716_738 := Aside0.mk ((mc235 : gb716 ≠ gb738)); have NB738_716 := Aside0.mk ((mc236 : gb738 ≠ gb716)); replace BK716 := Aside0.mk (blk_below BK716.out hb); have NB722_738 := Aside0.mk ((mc237 : gb722 ≠ gb738)); have NB738_722 := Aside0.mk ((mc238 : gb738 ≠ gb722)); replace BK722 := Aside0.mk (blk_below BK722.out hb); have NB728_738 := Aside0.mk ((mc239 : gb728 ≠ gb738)); have NB738_728 := Aside0.mk ((mc240 : gb738 ≠ gb728)); replace BK728 := Aside0.mk (blk_below BK728.out hb); clear hb hbox hg; have hnb78 := NB738_693.out; have hnc78 := NB693_738.out; have hnb79 := NB738_694.out; have hnc79 := NB694_738.out; have hnb80 := NB738_716.out; have hnc80 := NB716_738.out; have hnb81 := NB738_722.out; have hnc81 := NB722_738.out; have hnb82 := NB738_728.out; have hnc82 := NB728_738.out; have hcz83_0 : w77.cell? ⟨gb738, 0, none⟩ = some (.int .i64 0) := bc_ BK738 0 rfl; have hcz83_1 : w77.cell? ⟨gb738, 1, none⟩ = some (.int .i64 0) := bc_ BK738 1 rfl; have hcz83_2 : w77.cell? ⟨gb738, 2, none⟩ = some (.slice none 0 0) := bc_ BK738 2 rfl; have hfz83_0 := blk_frozen BK738.out 0; have hfz83_1 := blk_frozen BK738.out 1; have hfz83_2 := blk_frozen BK738.out 2; obtain ⟨Ao84, co84, eo84⟩ := Kd.R_slice HO736.out; subst eo84))
 (try simp only [Act.put, List.setIfInBounds_toArray, List.set_cons_zero, List.set_cons_succ])
 go_cut [64] (fun v64 wc => ∃ (kq : Nat) (x64_30 : Bool), v64 = .bool x64_30 ∧ Aside0 (laws_FnExactCopyRegion.j0 kq l2 t715 t729 t737 x64_30 a0_0 a0_1 l0_2 a1_0 a1_1 l1_2 t710 t711 t712 t717 t718 t719 t723 t724 t725 t732 t733 t734 = some r) ∧ Aside0 (kq ≤ k) ∧ Aside0 (Kd.R (Kd.int .i64) 3 wc w.heap.size (fun k_ => some k_ ≠ ((.slice Ao51 t712.length co51) : Value).ownBlock ∧ some k_ ≠ ((.slice Ao61 t719.length co61) : Value).ownBlock ∧ some k_ ≠ ((.slice Ao71 t725.length co71) : Value).ownBlock ∧ some k_ ≠ ((.slice Ao84 t734.length co84) : Value).ownBlock) (.slice Ao75 t729.length co75) t729) ∧ Aside0 (Kd.R (Kd.int .i64) 3 wc w.heap.size (fun k_ => some k_ ≠ ((.slice Ao75 t729.length co75) : Value).ownBlock ∧ some k_ ≠ ((.slice Ao61 t719.length co61) : Value).ownBlock ∧ some k_ ≠ ((.slice Ao71 t725.length co71) : Value).ownBlock ∧ some k_ ≠ ((.slice Ao84 t734.length co84) : Value).ownBlock) (.slice Ao51 t712.length co51) t712) ∧ Aside0 (Kd.R (Kd.int .i64) 3 wc w.heap.size (fun k_ => some k_ ≠ ((.slice Ao75 t729.length co75) : Value).ownBlock ∧ some k_ ≠ ((.slice Ao51 t712.length co51) : Value).ownBlock ∧ some k_ ≠ ((.slice Ao71 t725.length co71) : Value).ownBlock ∧ some k_ ≠ ((.slice Ao84 t734.length co84) : Value).ownBlock) (.slice Ao61 t719.length co61) t719) ∧ Aside0 (Kd.R (Kd.int .i64) 3 wc w.heap.size (fun k_ => some k_ ≠ ((.slice Ao75 t729.length co75) : Value).ownBlock ∧ some k_ ≠ ((.slice Ao51 t712.length co51) : Value).ownBlock ∧ some k_ ≠ ((.slice Ao61 t719.length co61) : Value).ownBlock ∧ some k_ ≠ ((.slice Ao84 t734.length co84) : Value).ownBlock) (.slice Ao71 t725.length co71) t725) ∧ Aside0 (Kd.R (Kd.int .i64) 3 wc w.heap.size (fun k_ => some k_ ≠ ((.slice Ao75 t729.length co75) : Value).ownBlock ∧ some k_ ≠ ((.slice Ao51 t712.length co51) : Value).ownBlock ∧ some k_ ≠ ((.slice Ao61 t719.length co61) : Value).ownBlock ∧ some k_ ≠ ((.slice Ao71 t725.length co71) : Value).ownBlock) (.slice Ao84 t734.length co84) t734) ∧ Aside0 (wc.heap[gb693]? = some (.cells #[.int .i64 a0_0, .int .i64 a0_1, (.slice A0_2 l0_2.length c0_2)] 36 (0, 0))) ∧ Aside0 (wc.heap[gb694]? = some (.cells #[.int .i64 a1_0, .int .i64 a1_1, (.slice A1_2 l1_2.length c1_2)] 36 (0, 0))) ∧ Aside0 (wc.heap[gb716]? = some (.cells #[.int .i64 t710, .int .i64 t711, (.slice Ao51 t712.length co51)] 26 (0, 0))) ∧ Aside0 (wc.heap[gb722]? = some (.cells #[.int .i64 t717, .int .i64 t718, (.slice Ao61 t719.length co61)] 26 (0, 0))) ∧ Aside0 (wc.heap[gb728]? = some (.cells #[.int .i64 t723, .int .i64 t724, (.slice Ao71 t725.length co71)] 26 (0, 0))) ∧ Aside0 (wc.heap[gb738]? = some (.cells #[.int .i64 t732, .int .i64 t733, (.slice Ao84 t734.length co84)] 26 (0, 0))) ∧ Aside0 (Below w.heap.size w wc))
 case first =>
  as_aux_lemma =>
   have H := HC31.out
   clear HC31
   obtain ⟨t739, A850, H⟩ := oB_ H
   have A85 := Aside0.mk A850
   clear A850
   by_cases c86 : t739 = true
   ·
    subst c86
    rw [if_pos rfl] at H
    have H' := Aside0.mk H
    clear H
    have hnb87 := NB738_693.out
    have hnc87 := NB693_738.out
    have hnb88 := NB738_694.out
    have hnc88 := NB694_738.out
    have hnb89 := NB738_716.out
    have hnc89 := NB716_738.out
    have hnb90 := NB738_722.out
    have hnc90 := NB722_738.out
    have hnb91 := NB738_728.out
    have hnc91 := NB728_738.out
    have hcz92_0 : w77.cell? ⟨gb738, 0, none⟩ = some (.int .i64 0) := bc_ BK738 0 rfl
    have hcz92_1 : w77.cell? ⟨gb738, 1, none⟩ = some (.int .i64 0) := bc_ BK738 1 rfl
    have hcz92_2 : w77.cell? ⟨gb738, 2, none⟩ = some (.slice none 0 0) := bc_ BK738 2 rfl
    have hfz92_0 := blk_frozen BK738.out 0
    have hfz92_1 := blk_frozen BK738.out 1
    have hfz92_2 := blk_frozen BK738.out 2
    have hnb93 := NB716_693.out
    have hnc93 := NB693_716.out
    have hnb94 := NB716_694.out
    have hnc94 := NB694_716.out
    have hnb95 := NB716_722.out
    have hnc95 := NB722_716.out
    have hnb96 := NB716_728.out
    have hnc96 := NB728_716.out
    have hcz97_0 : w77.cell? ⟨gb716, 0, none⟩ = some (.int .i64 t710) := bc_ BK716 0 rfl
    have hcz97_1 : w77.cell? ⟨gb716, 1, none⟩ = some (.int .i64 t711) := bc_ BK716 1 rfl
    have hcz97_2 : w77.cell? ⟨gb716, 2, none⟩ = some (.slice Ao51 t712.length co51) := bc_ BK716 2 rfl
    have hfz97_0 := blk_frozen BK716.out 0
    have hfz97_1 := blk_frozen BK716.out 1
    have hfz97_2 := blk_frozen BK716.out 2
    go_wp2_with (first | ((with_reducible refine gate_callee (f := 25) rfl ?_); refine goesL_ (some 58) rfl rfl Try.func25 (by kernel_rfl) rfl #[.agg #[.int .i64 t732, .int .i64 t733, .slice Ao84 t734.length co84], .agg #[.int .i64 t710, .int .i64 t711, .slice Ao51 t712.length co51]] rfl mc173 ?_; (with_reducible refine (laws_eqField.calls k t732 t733 _ _ t734 t710 t711 _ _ t712 true _ ?side1 ?side2 ?side3 ?side4 A85.out).mono ?_); (case side1 => exact mc0); (case side2 => exact (Kd.R_reads' HO736.out).2.1); (case side3 => exact mc3); (case side4 => exact (Kd.R_reads' HO714.out).2.1); rintro e w98 ⟨rfl, hb⟩; refine ⟨_, rfl, ?_⟩; replace HO701 := Aside0.mk (Kd.R_below mc43 hb); replace HO706 := Aside0.mk (Kd.R_below mc44 hb); replace HO709 := Aside0.mk (Kd.R_below mc45 hb); replace HO714 := Aside0.mk (Kd.R_below mc42 hb); replace HO721 := Aside0.mk (Kd.R_below mc46 hb); replace HO727 := Aside0.mk (Kd.R_below mc47 hb); replace HO731 := Aside0.mk (Kd.R_below mc48 hb); replace HO736 := Aside0.mk (Kd.R_below mc41 hb); replace BK693 := Aside0.mk (blk_below (g := gb693) (o := .cells #[.int .i64 a0_0, .int .i64 a0_1, .slice A0_2 l0_2.length c0_2] 36 (0, 0)) mc7 hb); replace BK694 := Aside0.mk (blk_below (g := gb694) (o := .cells #[.int .i64 a1_0, .int .i64 a1_1, .slice A1_2 l1_2.length c1_2] 36 (0, 0)) mc8 hb); replace BK716 := Aside0.mk (blk_below (g := gb716) (o := .cells #[.int .i64 t710, .int .i64 t711, .slice Ao51 t712.length co51] 26 (0, 0)) mc9 hb); replace BK722 := Aside0.mk (blk_below (g := gb722) (o := .cells #[.int .i64 t717, .int .i64 t718, .slice Ao61 t719.length co61] 26 (0, 0)) mc10 hb); replace BK728 := Aside0.mk (blk_below (g := gb728) (o := .cells #[.int .i64 t723, .int .i64 t724, .slice Ao71 t725.length co71] 26 (0, 0)) mc11 hb); replace BK738 := Aside0.mk (blk_below (g := gb738) (o := .cells #[.int .i64 t732, .int .i64 t733, .slice Ao84 t734.length co84] 26 (0, 0)) mc5 hb); replace HB := Aside0.mk (below_step mc52 hb); (try clear hb); (try clear hk)))
    go_meet
    case rel => exact ⟨_, ((t737 != t715)), mc241, H', ⟨mc244⟩, ⟨mc140⟩, ⟨mc141⟩, ⟨mc142⟩, ⟨mc143⟩, ⟨mc144⟩, ⟨mc198⟩, ⟨mc199⟩, ⟨mc200⟩, ⟨mc201⟩, ⟨mc202⟩, ⟨mc203⟩, ⟨mc52⟩⟩
   replace c86 := Bool.eq_false_iff.mpr c86
   subst c86
   rw [if_neg (show ¬ (false = true) by decide)] at H
   have H' := Aside0.mk H
   clear H
   have hnb99 := NB738_693.out
   have hnc99 := NB693_738.out
   have hnb100 := NB738_694.out
   have hnc100 := NB694_738.out
   have hnb101 := NB738_716.out
   have hnc101 := NB716_738.out
   have hnb102 := NB738_722.out
   have hnc102 := NB722_738.out
   have hnb103 := NB738_728.out
   have hnc103 := NB728_738.out
   have hcz104_0 : w77.cell? ⟨gb738, 0, none⟩ = some (.int .i64 0) := bc_ BK738 0 rfl
   have hcz104_1 : w77.cell? ⟨gb738, 1, none⟩ = some (.int .i64 0) := bc_ BK738 1 rfl
   have hcz104_2 : w77.cell? ⟨gb738, 2, none⟩ = some (.slice none 0 0) := bc_ BK738 2 rfl
   have hfz104_0 := blk_frozen BK738.out 0
   have hfz104_1 := blk_frozen BK738.out 1
   have hfz104_2 := blk_frozen BK738.out 2
   have hnb105 := NB716_693.out
   have hnc105 := NB693_716.out
   have hnb106 := NB716_694.out
   have hnc106 := NB694_716.out
   have hnb107 := NB716_722.out
   have hnc107 := NB722_716.out
   have hnb108 := NB716_728.out
   have hnc108 := NB728_716.out
   have hcz109_0 : w77.cell? ⟨gb716, 0, none⟩ = some (.int .i64 t710) := bc_ BK716 0 rfl
   have hcz109_1 : w77.cell? ⟨gb716, 1, none⟩ = some (.int .i64 t711) := bc_ BK716 1 rfl
   have hcz109_2 : w77.cell? ⟨gb716, 2, none⟩ = some (.slice Ao51 t712.length co51) := bc_ BK716 2 rfl
   have hfz109_0 := blk_frozen BK716.out 0
   have hfz109_1 := blk_frozen BK716.out 1
   have hfz109_2 := blk_frozen BK716.out 2
   go_wp2_with (first | ((with_reducible refine gate_callee (f := 25) rfl ?_); refine goesL_ (some 58) rfl rfl Try.func25 (by kernel_rfl) rfl #[.agg #[.int .i64 t732, .int .i64 t733, .slice Ao84 t734.length co84], .agg #[.int .i64 t710, .int .i64 t711, .slice Ao51 t712.length co51]] rfl mc173 ?_; (with_reducible refine (laws_eqField.calls k t732 t733 _ _ t734 t710 t711 _ _ t712 false _ ?side1 ?side2 ?side3 ?side4 A85.out).mono ?_); (case side1 => exact mc0); (case side2 => exact (Kd.R_reads' HO736.out).2.1); (case side3 => exact mc3); (case side4 => exact (Kd.R_reads' HO714.out).2.1); rintro e w110 ⟨rfl, hb⟩; refine ⟨_, rfl, ?_⟩; replace HO701 := Aside0.mk (Kd.R_below mc43 hb); replace HO706 := Aside0.mk (Kd.R_below mc44 hb); replace HO709 := Aside0.mk (Kd.R_below mc45 hb); replace HO714 := Aside0.mk (Kd.R_below mc42 hb); replace HO721 := Aside0.mk (Kd.R_below mc46 hb); replace HO727 := Aside0.mk (Kd.R_below mc47 hb); replace HO731 := Aside0.mk (Kd.R_below mc48 hb); replace HO736 := Aside0.mk (Kd.R_below mc41 hb); replace BK693 := Aside0.mk (blk_below (g := gb693) (o := .cells #[.int .i64 a0_0, .int .i64 a0_1, .slice A0_2 l0_2.length c0_2] 36 (0, 0)) mc7 hb); replace BK694 := Aside0.mk (blk_below (g := gb694) (o := .cells #[.int .i64 a1_0, .int .i64 a1_1, .slice A1_2 l1_2.length c1_2] 36 (0, 0)) mc8 hb); replace BK716 := Aside0.mk (blk_below (g := gb716) (o := .cells #[.int .i64 t710, .int .i64 t711, .slice Ao51 t712.length co51] 26 (0, 0)) mc9 hb); replace BK722 := Aside0.mk (blk_below (g := gb722) (o := .cells #[.int .i64 t717, .int .i64 t718, .slice Ao61 t719.length co61] 26 (0, 0)) mc10 hb); replace BK728 := Aside0.mk (blk_below (g := gb728) (o := .cells #[.int .i64 t723, .int .i64 t724, .slice Ao71 t725.length co71] 26 (0, 0)) mc11 hb); replace BK738 := Aside0.mk (blk_below (g := gb738) (o := .cells #[.int .i64 t732, .int .i64 t733, .slice Ao84 t734.length co84] 26 (0, 0)) mc5 hb); replace HB := Aside0.mk (below_step mc52 hb); (try clear hb); (try clear hk)))
   go_meet
   case rel => exact ⟨_, (true), mc241, H', ⟨mc244⟩, ⟨mc140⟩, ⟨mc141⟩, ⟨mc142⟩, ⟨mc143⟩, ⟨mc144⟩, ⟨mc198⟩, ⟨mc199⟩, ⟨mc200⟩, ⟨mc201⟩, ⟨mc202⟩, ⟨mc203⟩, ⟨mc52⟩⟩
 case rest =>
  as_aux_lemma =>
   clear HC31
   try clear c1
   try clear c2
   try clear p2
   try clear c3
   try clear c5
   try clear c6
   try clear c7
   try clear c8
   try clear c9
   try clear c10
   try clear c22
   try clear c23
   try clear c25
   try clear c30
   try clear c31
   try clear c53
   try clear c57
   try clear c58
   try clear c59
   try clear c62
   try clear c66
   try clear c67
   try clear c68
   try clear c69
   try clear c78
   try clear c79
   try clear c80
   try clear c81
   try clear c82
   try clear c86
   try clear c87
   try clear c88
   try clear c89
   try clear c90
   try clear c91
   try clear c93
   try clear c94
   try clear c95
   try clear c96
   try clear c99
   try clear c100
   try clear c101
   try clear c102
   try clear c103
   try clear c105
   try clear c106
   try clear c107
   try clear c108
   try clear hcz104_0
   try clear hcz104_1
   try clear hcz104_2
   try clear hcz109_0
   try clear hcz109_1
   try clear hcz109_2
   try clear hcz54_0
   try clear hcz54_1
   try clear hcz54_2
   try clear hcz60_0
   try clear hcz60_1
   try clear hcz60_2
   try clear hcz63_0
   try clear hcz63_1
   try clear hcz63_2
   try clear hcz70_0
   try clear hcz70_1
   try clear hcz70_2
   try clear hcz73_0
   try clear hcz73_1
   try clear hcz73_2
   try clear hcz74_0
   try clear hcz74_1
   try clear hcz74_2
   try clear hcz83_0
   try clear hcz83_1
   try clear hcz83_2
   try clear hcz92_0
   try clear hcz92_1
   try clear hcz92_2
   try clear hcz97_0
   try clear hcz97_1
   try clear hcz97_2
   try clear hfz104_0
   try clear hfz104_1
   try clear hfz104_2
   try clear hfz109_0
   try clear hfz109_1
   try clear hfz109_2
   try clear hfz54_0
   try clear hfz54_1
   try clear hfz54_2
   try clear hfz60_0
   try clear hfz60_1
   try clear hfz60_2
   try clear hfz63_0
   try clear hfz63_1
   try clear hfz63_2
   try clear hfz70_0
   try clear hfz70_1
   try clear hfz70_2
   try clear hfz73_0
   try clear hfz73_1
   try clear hfz73_2
   try clear hfz74_0
   try clear hfz74_1
   try clear hfz74_2
   try clear hfz83_0
   try clear hfz83_1
   try clear hfz83_2
   try clear hfz92_0
   try clear hfz92_1
   try clear hfz92_2
   try clear hfz97_0
   try clear hfz97_1
   try clear hfz97_2
   obtain ⟨kq, x64_30, rfl, HA, HJ30, HO_12, HO_717002, HO_723002, HO_729002, HO_739002, BK693, BK694, BK716, BK722, BK728, BK738, HB⟩ := hcut
   cases kq with
   | zero => exact absurd HA.out (by simp [laws_FnExactCopyRegion.j0])
   | succ kj30 =>
    have H := HA.out
    clear HA
    simp only [laws_FnExactCopyRegion.j0] at H
    by_cases c111 : x64_30 = true
    ·
     subst c111
     have H1 : (some false) = some r := by rw [if_pos rfl] at H; exact H
     exact absurd ((Option.some.inj H1).trans hrt_) (by decide)
    replace c111 := Bool.eq_false_iff.mpr c111
    subst c111
    rw [if_neg (show ¬ (false = true) by decide)] at H
    obtain ⟨⟨t740, t741, t742⟩, A1120, H⟩ := oB_ H
    have A112 := Aside0.mk A1120
    clear A1120
    obtain ⟨t745, A1130, H⟩ := oB_ H
    have A113 := Aside0.mk A1130
    clear A1130
    by_cases c114 : t745 = true
    rotate_left
    ·
     replace c114 := Bool.eq_false_iff.mpr c114
     subst c114
     have H1 : (some false) = some r := by rw [if_neg (show ¬ (false = true) by decide)] at H; exact H
     exact absurd ((Option.some.inj H1).trans hrt_) (by decide)
    subst c114
    rw [if_pos rfl] at H
    obtain ⟨⟨t746, t747, t748⟩, A1150, H⟩ := oB_ H
    have A115 := Aside0.mk A1150
    clear A1150
    obtain ⟨t751, A1160, H⟩ := oB_ H
    have A116 := Aside0.mk A1160
    clear A1160
    by_cases c117 : t751 = true
    rotate_left
    ·
     replace c117 := Bool.eq_false_iff.mpr c117
     subst c117
     have H1 : (some false) = some r := by rw [if_neg (show ¬ (false = true) by decide)] at H; exact H
     exact absurd ((Option.some.inj H1).trans hrt_) (by decide)
    subst c117
    rw [if_pos rfl] at H
    obtain ⟨t752, A1180, H⟩ := oB_ H
    have A118 := Aside0.mk A1180
    clear A1180
    obtain ⟨t755, A1190, H⟩ := oB_ H
    have A119 := Aside0.mk A1190
    clear A1190
    by_cases c120 : t755 = true
    rotate_left
    ·
     replace c120 := Bool.eq_false_iff.mpr c120
     subst c120
     have H1 : (some false) = some r := by rw [if_neg (show ¬ (false = true) by decide)] at H; exact H
     exact absurd ((Option.some.inj H1).trans hrt_) (by decide)
    subst c120
    rw [if_pos rfl] at H
    obtain ⟨⟨t756, t757⟩, A1210, H⟩ := oB_ H
    have A121 := Aside0.mk A1210
    clear A1210
    obtain ⟨⟨t758, t759⟩, A1220, H⟩ := oB_ H
    have A122 := Aside0.mk A1220
    clear A1220
    obtain ⟨⟨t760, t761⟩, A1230, H⟩ := oB_ H
    have A123 := Aside0.mk A1230
    clear A1230
    have HC124 := Aside0.mk H
    clear H
    try go_wp2
    replace HO_12 := Aside0.mk (Kd.R_drew HO_12.out)
    replace HO_717002 := Aside0.mk (Kd.R_drew HO_717002.out)
    replace HO_723002 := Aside0.mk (Kd.R_drew HO_723002.out)
    replace HO_729002 := Aside0.mk (Kd.R_drew HO_729002.out)
    replace HO_739002 := Aside0.mk (Kd.R_drew HO_739002.out)
    replace BK693 := Aside0.mk (blk_drew BK693.out)
    replace BK694 := Aside0.mk (blk_drew BK694.out)
    replace BK716 := Aside0.mk (blk_drew BK716.out)
    replace BK722 := Aside0.mk (blk_drew BK722.out)
    replace BK728 := Aside0.mk (blk_drew BK728.out)
    replace BK738 := Aside0.mk (blk_drew BK738.out)
    replace HB := Aside0.mk (below_drew1 HB.out)
    refine start_ (n := 5) (S := fun w' => w'.cell? ⟨gb722, 0, none⟩ = some (.int .i64 t717) ∧ w'.cell? ⟨gb722, 1, none⟩ = some (.int .i64 t718) ∧ w'.cell? ⟨gb722, 2, none⟩ = some (.slice Ao61 t719.length co61) ∧ w'.cell? ⟨gb693, 0, none⟩ = some (.int .i64 a0_0) ∧ w'.cell? ⟨gb693, 1, none⟩ = some (.int .i64 a0_1) ∧ w'.cell? ⟨gb693, 2, none⟩ = some (.slice A0_2 l0_2.length c0_2)) (ds := []) #[false, false, false, false, false] (by kernel_rfl) rfl rfl ⟨bc_ BK722 0 rfl, bc_ BK722 1 rfl, bc_ BK722 2 rfl, bc_ BK693 0 rfl, bc_ BK693 1 rfl, bc_ BK693 2 rfl⟩ (fun hHeld => ?_)
    generalize wc.drew = w125 at HO_12 HO_717002 HO_723002 HO_729002 HO_739002 BK693 BK694 BK716 BK722 BK728 BK738 HB hHeld ⊢
    refine take_ (i := 0) (N := some 65) #[true, false, false, false, false] rfl rfl (by kernel_rfl) (fun _ _ _ h => h) (Or.inl ⟨by rfl, mc227⟩) hHeld mc208 ?_
    refine take_ (i := 1) (N := some 66) #[true, true, false, false, false] rfl rfl (by kernel_rfl) (fun _ _ _ h => h) (Or.inl ⟨by rfl, mc227⟩) hHeld mc208 ?_
    refine one_ (i := 2) (N := some 67) #[true, true, true, false, false] rfl rfl (by kernel_rfl) (by decide) (fun K hK => ?_)
    refine goes_ Try.func22 (by kernel_rfl) rfl #[.agg #[.int .i64 a0_0, .int .i64 a0_1, .slice A0_2 l0_2.length c0_2]] (by rfl) rfl rfl mc173 ?_
    with_reducible refine (laws_toField.calls kj30 a0_0 a0_1 _ _ l0_2 t740 t741 t742 _ ?side1 ?side2 A112.out).mono ?_
    (case side1 => exact mc132)
    (case side2 => exact HC0_2.out)
    rintro e w126 ⟨v743, rfl, ho0, hb⟩
    refine ⟨_, rfl, ?_⟩
    have HO744 := Aside0.mk (Kd.R_lower (Kd.R_new' (Kd.R_new' (Kd.R_new' (Kd.R_new' (Kd.R_new' ho0 (Kd.R_lt mc219)) (Kd.R_lt mc204)) (Kd.R_lt mc205)) (Kd.R_lt mc206)) (Kd.R_lt mc207)) (below_size mc52))
    replace HO_12 := Aside0.mk (Kd.R_elder' mc219 (Kd.R_base ho0) hb)
    replace HO_717002 := Aside0.mk (Kd.R_elder' mc204 (Kd.R_base ho0) hb)
    replace HO_723002 := Aside0.mk (Kd.R_elder' mc205 (Kd.R_base ho0) hb)
    replace HO_729002 := Aside0.mk (Kd.R_elder' mc206 (Kd.R_base ho0) hb)
    replace HO_739002 := Aside0.mk (Kd.R_elder' mc207 (Kd.R_base ho0) hb)
    replace BK693 := Aside0.mk (blk_below BK693.out hb)
    replace BK694 := Aside0.mk (blk_below BK694.out hb)
    replace BK716 := Aside0.mk (blk_below BK716.out hb)
    replace BK722 := Aside0.mk (blk_below BK722.out hb)
    replace BK728 := Aside0.mk (blk_below BK728.out hb)
    replace BK738 := Aside0.mk (blk_below BK738.out hb)
    replace HB := Aside0.mk (below_step mc52 hb)
    (try clear hb)
    (try clear hb2)
    (try clear hk)
    (try clear hi)
    (try clear ho0)
    obtain ⟨Ao127, co127, eo127⟩ := Kd.R_slice HO744.out
    (first | subst eo127 | (injection eo127 with f1_ f2_ f3_; have f4_ := f1_.symm; have f5_ := f3_.symm; clear f1_ f2_ f3_; subst f4_; subst f5_))
    refine hK.out _ _ ⟨bc_ BK722 0 rfl, bc_ BK722 1 rfl, bc_ BK722 2 rfl, bc_ BK693 0 rfl, bc_ BK693 1 rfl, bc_ BK693 2 rfl⟩ (fun hHeld => ?_)
    clear hK K
    refine norm_ (by show Act.put _ (some 67) _ = _; simp only [Act.put, List.setIfInBounds_toArray, List.set_cons_zero, List.set_cons_succ, i64_w, i32_w]; rfl) ?_
    refine one_ (i := 3) (N := some 68) #[true, true, true, true, false] rfl rfl (by kernel_rfl) (by decide) (fun K hK => ?_)
    refine goes_ Try.func25 (by kernel_rfl) rfl #[.agg #[.int .i64 t717, .int .i64 t718, .slice Ao61 t719.length co61], .agg #[.int .i64 t740, .int .i64 t741, .slice Ao127 t742.length co127]] (by rfl) rfl rfl mc173 ?_
    with_reducible refine (laws_eqField.calls kj30 t717 t718 _ _ t719 t740 t741 _ _ t742 true _ ?side1 ?side2 ?side3 ?side4 A113.out).mono ?_
    (case side1 => repeat (first | exact (Kd.R_reads' HO_723002.out).2.2 | (with_reducible refine Kd.C_alloc ?_ _) | (with_reducible refine Kd.C_drewN ?_ _) | (with_reducible refine Kd.C_drew ?_)))
    (case side2 => exact (Kd.R_reads' HO_723002.out).2.1)
    (case side3 => repeat (first | exact (Kd.R_reads' HO744.out).2.2 | (with_reducible refine Kd.C_alloc ?_ _) | (with_reducible refine Kd.C_drewN ?_ _) | (with_reducible refine Kd.C_drew ?_)))
    (case side4 => exact (Kd.R_reads' HO744.out).2.1)
    rintro e w128 ⟨rfl, hb⟩
    refine ⟨_, rfl, ?_⟩
    replace HO_12 := Aside0.mk (Kd.R_below mc219 hb)
    replace HO_717002 := Aside0.mk (Kd.R_below mc204 hb)
    replace HO_723002 := Aside0.mk (Kd.R_below mc205 hb)
    replace HO_729002 := Aside0.mk (Kd.R_below mc206 hb)
    replace HO_739002 := Aside0.mk (Kd.R_below mc207 hb)
    replace HO744 := Aside0.mk (Kd.R_below mc220 hb)
    replace BK693 := Aside0.mk (blk_below BK693.out hb)
    replace BK694 := Aside0.mk (blk_below BK694.out hb)
    replace BK716 := Aside0.mk (blk_below BK716.out hb)
    replace BK722 := Aside0.mk (blk_below BK722.out hb)
    replace BK728 := Aside0.mk (blk_below BK728.out hb)
    replace BK738 := Aside0.mk (blk_below BK738.out hb)
    replace HB := Aside0.mk (below_step mc52 hb)
    (try clear hb)
    (try clear hb2)
    (try clear hk)
    (try clear hi)
    refine hK.out _ _ ⟨bc_ BK722 0 rfl, bc_ BK722 1 rfl, bc_ BK722 2 rfl, bc_ BK693 0 rfl, bc_ BK693 1 rfl, bc_ BK693 2 rfl⟩ (fun hHeld => ?_)
    clear hK K
    refine norm_ (by show Act.put _ (some 68) _ = _; simp only [Act.put, List.setIfInBounds_toArray, List.set_cons_zero, List.set_cons_succ, i64_w, i32_w]; rfl) ?_
    refine pure_ (i := 4) (N := some 69) #[true, true, true, true, true] rfl rfl (by kernel_rfl) (fun _ _ _ h => h) (Or.inl ⟨by rfl, mc243⟩) mc208 ?_
    refine done_ (by kernel_rfl) ?_
    try go_wp2
    replace HO_12 := Aside0.mk (Kd.R_drew HO_12.out)
    replace HO_717002 := Aside0.mk (Kd.R_drew HO_717002.out)
    replace HO_723002 := Aside0.mk (Kd.R_drew HO_723002.out)
    replace HO_729002 := Aside0.mk (Kd.R_drew HO_729002.out)
    replace HO_739002 := Aside0.mk (Kd.R_drew HO_739002.out)
    replace HO744 := Aside0.mk (Kd.R_drew HO744.out)
    replace BK693 := Aside0.mk (blk_drew BK693.out)
    replace BK694 := Aside0.mk (blk_drew BK694.out)
    replace BK716 := Aside0.mk (blk_drew BK716.out)
    replace BK722 := Aside0.mk (blk_drew BK722.out)
    replace BK728 := Aside0.mk (blk_drew BK728.out)
    replace BK738 := Aside0.mk (blk_drew BK738.out)
    replace HB := Aside0.mk (below_drew1 HB.out)
    refine start_ (n := 5) (S := fun w' => w'.cell? ⟨gb728, 0, none⟩ = some (.int .i64 t723) ∧ w'.cell? ⟨gb728, 1, none⟩ = some (.int .i64 t724) ∧ w'.cell? ⟨gb728, 2, none⟩ = some (.slice Ao71 t725.length co71) ∧ w'.cell? ⟨gb694, 0, none⟩ = some (.int .i64 a1_0) ∧ w'.cell? ⟨gb694, 1, none⟩ = some (.int .i64 a1_1) ∧ w'.cell? ⟨gb694, 2, none⟩ = some (.slice A1_2 l1_2.length c1_2)) (ds := []) #[false, false, false, false, false] (by kernel_rfl) rfl rfl ⟨bc_ BK728 0 rfl, bc_ BK728 1 rfl, bc_ BK728 2 rfl, bc_ BK694 0 rfl, bc_ BK694 1 rfl, bc_ BK694 2 rfl⟩ (fun hHeld => ?_)
    generalize w128.drew = w129 at HO_12 HO_717002 HO_723002 HO_729002 HO_739002 HO744 BK693 BK694 BK716 BK722 BK728 BK738 HB hHeld ⊢
    refine take_ (i := 0) (N := some 70) #[true, false, false, false, false] rfl rfl (by kernel_rfl) (fun _ _ _ h => h) (Or.inl ⟨by rfl, mc227⟩) hHeld mc208 ?_
    refine take_ (i := 1) (N := some 71) #[true, true, false, false, false] rfl rfl (by kernel_rfl) (fun _ _ _ h => h) (Or.inl ⟨by rfl, mc227⟩) hHeld mc208 ?_
    refine one_ (i := 2) (N := some 72) #[true, true, true, false, false] rfl rfl (by kernel_rfl) (by decide) (fun K hK => ?_)
    refine goes_ Try.func22 (by kernel_rfl) rfl #[.agg #[.int .i64 a1_0, .int .i64 a1_1, .slice A1_2 l1_2.length c1_2]] (by rfl) rfl rfl mc173 ?_
    with_reducible refine (laws_toField.calls kj30 a1_0 a1_1 _ _ l1_2 t746 t747 t748 _ ?side1 ?side2 A115.out).mono ?_
    (case side1 => exact mc133)
    (case side2 => exact HC1_2.out)
    rintro e w130 ⟨v749, rfl, ho0, hb⟩
    refine ⟨_, rfl, ?_⟩
    have HO750 := Aside0.mk (Kd.R_lower (Kd.R_new' (Kd.R_new' (Kd.R_new' (Kd.R_new' (Kd.R_new' (Kd.R_new' ho0 (Kd.R_lt mc219)) (Kd.R_lt mc204)) (Kd.R_lt mc205)) (Kd.R_lt mc206)) (Kd.R_lt mc207)) (Kd.R_lt mc220)) (below_size mc52))
    replace HO_12 := Aside0.mk (Kd.R_elder' mc219 (Kd.R_base ho0) hb)
    replace HO_717002 := Aside0.mk (Kd.R_elder' mc204 (Kd.R_base ho0) hb)
    replace HO_723002 := Aside0.mk (Kd.R_elder' mc205 (Kd.R_base ho0) hb)
    replace HO_729002 := Aside0.mk (Kd.R_elder' mc206 (Kd.R_base ho0) hb)
    replace HO_739002 := Aside0.mk (Kd.R_elder' mc207 (Kd.R_base ho0) hb)
    replace HO744 := Aside0.mk (Kd.R_elder' mc220 (Kd.R_base ho0) hb)
    replace BK693 := Aside0.mk (blk_below BK693.out hb)
    replace BK694 := Aside0.mk (blk_below BK694.out hb)
    replace BK716 := Aside0.mk (blk_below BK716.out hb)
    replace BK722 := Aside0.mk (blk_below BK722.out hb)
    replace BK728 := Aside0.mk (blk_below BK728.out hb)
    replace BK738 := Aside0.mk (blk_below BK738.out hb)
    replace HB := Aside0.mk (below_step mc52 hb)
    (try clear hb)
    (try clear hb2)
    (try clear hk)
    (try clear hi)
    (try clear ho0)
    obtain ⟨Ao131, co131, eo131⟩ := Kd.R_slice HO750.out
    (first | subst eo131 | (injection eo131 with f1_ f2_ f3_; have f4_ := f1_.symm; have f5_ := f3_.symm; clear f1_ f2_ f3_; subst f4_; subst f5_))
    refine hK.out _ _ ⟨bc_ BK728 0 rfl, bc_ BK728 1 rfl, bc_ BK728 2 rfl, bc_ BK694 0 rfl, bc_ BK694 1 rfl, bc_ BK694 2 rfl⟩ (fun hHeld => ?_)
    clear hK K
    refine norm_ (by show Act.put _ (some 72) _ = _; simp only [Act.put, List.setIfInBounds_toArray, List.set_cons_zero, List.set_cons_succ, i64_w, i32_w]; rfl) ?_
    refine one_ (i := 3) (N := some 73) #[true, true, true, true, false] rfl rfl (by kernel_rfl) (by decide) (fun K hK => ?_)
    refine goes_ Try.func25 (by kernel_rfl) rfl #[.agg #[.int .i64 t723, .int .i64 t724, .slice Ao71 t725.length co71], .agg #[.int .i64 t746, .int .i64 t747, .slice Ao131 t748.length co131]] (by rfl) rfl rfl mc173 ?_
    with_reducible refine (laws_eqField.calls kj30 t723 t724 _ _ t725 t746 t747 _ _ t748 true _ ?side1 ?side2 ?side3 ?side4 A116.out).mono ?_
    (case side1 => repeat (first | exact (Kd.R_reads' HO_729002.out).2.2 | (with_reducible refine Kd.C_alloc ?_ _) | (with_reducible refine Kd.C_drewN ?_ _) | (with_reducible refine Kd.C_drew ?_)))
    (case side2 => exact (Kd.R_reads' HO_729002.out).2.1)
    (case side3 => repeat (first | exact (Kd.R_reads' HO750.out).2.2 | (with_reducible refine Kd.C_alloc ?_ _) | (with_reducible refine Kd.C_drewN ?_ _) | (with_reducible refine Kd.C_drew ?_)))
    (case side4 => exact (Kd.R_reads' HO750.out).2.1)
    rintro e w132 ⟨rfl, hb⟩
    refine ⟨_, rfl, ?_⟩
    replace HO_12 := Aside0.mk (Kd.R_below mc219 hb)
    replace HO_717002 := Aside0.mk (Kd.R_below mc204 hb)
    replace HO_723002 := Aside0.mk (Kd.R_below mc205 hb)
    replace HO_729002 := Aside0.mk (Kd.R_below mc206 hb)
    replace HO_739002 := Aside0.mk (Kd.R_below mc207 hb)
    replace HO744 := Aside0.mk (Kd.R_below mc220 hb)
    replace HO750 := Aside0.mk (Kd.R_below mc221 hb)
    replace BK693 := Aside0.mk (blk_below BK693.out hb)
    replace BK694 := Aside0.mk (blk_below BK694.out hb)
    replace BK716 := Aside0.mk (blk_below BK716.out hb)
    replace BK722 := Aside0.mk (blk_below BK722.out hb)
    replace BK728 := Aside0.mk (blk_below BK728.out hb)
    replace BK738 := Aside0.mk (blk_below BK738.out hb)
    replace HB := Aside0.mk (below_step mc52 hb)
    (try clear hb)
    (try clear hb2)
    (try clear hk)
    (try clear hi)
    refine hK.out _ _ ⟨bc_ BK728 0 rfl, bc_ BK728 1 rfl, bc_ BK728 2 rfl, bc_ BK694 0 rfl, bc_ BK694 1 rfl, bc_ BK694 2 rfl⟩ (fun hHeld => ?_)
    clear hK K
    refine norm_ (by show Act.put _ (some 73) _ = _; simp only [Act.put, List.setIfInBounds_toArray, List.set_cons_zero, List.set_cons_succ, i64_w, i32_w]; rfl) ?_
    refine pure_ (i := 4) (N := some 74) #[true, true, true, true, true] rfl rfl (by kernel_rfl) (fun _ _ _ h => h) (Or.inl ⟨by rfl, mc243⟩) mc208 ?_
    refine done_ (by kernel_rfl) ?_
    go_upto_region 27 with (first | ((with_reducible refine gate_callee (f := 23) rfl ?_); refine goesL_ (some 77) rfl rfl Try.func23 (by kernel_rfl) rfl #[.slice A2 l2.length c2] rfl mc173 ?_; (with_reducible refine (laws_toIntS.calls kj30 _ _ l2 t752 _ ?side1 ?side2 A118.out).mono ?_); (case side1 => exact mc134); (case side2 => exact HC2.out); rintro e w133 ⟨v753, rfl, ho0, hb⟩; refine ⟨_, rfl, ?_⟩; have HO754 := Aside0.mk (Kd.R_lower (Kd.R_new' (Kd.R_new' (Kd.R_new' (Kd.R_new' (Kd.R_new' (Kd.R_new' (Kd.R_new' ho0 (Kd.R_lt mc219)) (Kd.R_lt mc204)) (Kd.R_lt mc205)) (Kd.R_lt mc206)) (Kd.R_lt mc207)) (Kd.R_lt mc220)) (Kd.R_lt mc221)) (below_size mc52)); replace HO_12 := Aside0.mk (Kd.R_elder' mc219 (Kd.R_base ho0) hb); replace HO_717002 := Aside0.mk (Kd.R_elder' mc204 (Kd.R_base ho0) hb); replace HO_723002 := Aside0.mk (Kd.R_elder' mc205 (Kd.R_base ho0) hb); replace HO_729002 := Aside0.mk (Kd.R_elder' mc206 (Kd.R_base ho0) hb); replace HO_739002 := Aside0.mk (Kd.R_elder' mc207 (Kd.R_base ho0) hb); replace HO744 := Aside0.mk (Kd.R_elder' mc220 (Kd.R_base ho0) hb); replace HO750 := Aside0.mk (Kd.R_elder' mc221 (Kd.R_base ho0) hb); replace BK693 := Aside0.mk (blk_below BK693.out hb); replace BK694 := Aside0.mk (blk_below BK694.out hb); replace BK716 := Aside0.mk (blk_below BK716.out hb); replace BK722 := Aside0.mk (blk_below BK722.out hb); replace BK728 := Aside0.mk (blk_below BK728.out hb); replace BK738 := Aside0.mk (blk_below BK738.out hb); replace HB := Aside0.mk (below_step mc52 hb); (try clear hb); (try clear hk); (try clear ho0); obtain ⟨Ao134, co134, eo134⟩ := Kd.R_slice HO754.out; subst eo134) | ((with_reducible refine gate_callee (f := 26) rfl ?_); refine goesL_ (some 78) rfl rfl Try.func26 (by kernel_rfl) rfl #[.slice Ao75 t729.length co75, .slice Ao134 t752.length co134] rfl mc173 ?_; (with_reducible refine (laws_eqIntS.calls kj30 _ _ t729 _ _ t752 true _ ?side1 ?side2 ?side3 ?side4 A119.out).mono ?_); (case side1 => repeat (first | exact (Kd.R_reads' HO_12.out).2.2 | (with_reducible refine Kd.C_alloc ?_ _) | (with_reducible refine Kd.C_drewN ?_ _) | (with_reducible refine Kd.C_drew ?_))); (case side2 => exact (Kd.R_reads' HO_12.out).2.1); (case side3 => repeat (first | exact (Kd.R_reads' HO754.out).2.2 | (with_reducible refine Kd.C_alloc ?_ _) | (with_reducible refine Kd.C_drewN ?_ _) | (with_reducible refine Kd.C_drew ?_))); (case side4 => exact (Kd.R_reads' HO754.out).2.1); rintro e w' ⟨rfl, ⟨nd, rfl⟩⟩; refine ⟨_, rfl, ?_⟩; have hnb135 := NB722_693.out; have hnc135 := NB693_722.out; have hnb136 := NB722_694.out; have hnc136 := NB694_722.out; have hnb137 := NB722_716.out; have hnc137 := NB716_722.out; have hnb138 := NB722_728.out; have hnc138 := NB728_722.out; have hnb139 := NB722_738.out; have hnc139 := NB738_722.out; have hcz140_0 : w133.cell? ⟨gb722, 0, none⟩ = some (.int .i64 t717) := bc_ BK722 0 rfl; have hcz140_1 : w133.cell? ⟨gb722, 1, none⟩ = some (.int .i64 t718) := bc_ BK722 1 rfl; have hcz140_2 : w133.cell? ⟨gb722, 2, none⟩ = some (.slice Ao61 t719.length co61) := bc_ BK722 2 rfl; have hfz140_0 := blk_frozen BK722.out 0; have hfz140_1 := blk_frozen BK722.out 1; have hfz140_2 := blk_frozen BK722.out 2) | ((with_reducible refine gate_callee (f := 27) rfl ?_); refine goesL_ (some 82) rfl rfl Try.func27 (by kernel_rfl) rfl #[.agg #[.int .i64 t717, .int .i64 t718, .slice Ao61 t719.length co61], .int .i64 1] rfl mc173 ?_; (with_reducible refine (laws_markField.calls kj30 t717 t718 (fun k_ => some k_ = (.slice Ao61 t719.length co61 : Value).ownBlock) (.slice Ao61 t719.length co61) t719 1 t756 t757 w _ ?side1 ?side2 A121.out).mono ?_); (case side1 => exact mc52); (case side2 => exact Kd.R_tight rfl HO_723002.out); rintro e w141 ⟨rfl, hy0, hb, hkp⟩; refine ⟨_, rfl, ?_⟩; replace HO_12 := Aside0.mk (Kd.R_mono (ok' := fun k_ => some k_ ≠ (.slice Ao51 t712.length co51 : Value).ownBlock ∧ some k_ ≠ (.slice Ao61 t719.length co61 : Value).ownBlock ∧ some k_ ≠ (.slice Ao71 t725.length co71 : Value).ownBlock ∧ some k_ ≠ (.slice Ao84 t734.length co84 : Value).ownBlock ∧ some k_ ≠ (.slice Ao127 t742.length co127 : Value).ownBlock ∧ some k_ ≠ (.slice Ao131 t748.length co131 : Value).ownBlock ∧ some k_ ≠ (.slice Ao134 t752.length co134 : Value).ownBlock) (Kd.R_keptB (HO_12.out) hkp (fun k_ hk_ hs_ => (hk_.1.1.1.2.1) hs_)) (fun k_ hk_ => ⟨hk_.1.1.1.1.1, hk_.1.1.1.1.2.1, hk_.1.1.1.1.2.2.1, hk_.1.1.1.1.2.2.2, hk_.1.1.1.2, hk_.1.1.2, hk_.1.2⟩)); replace HO_717002 := Aside0.mk (Kd.R_mono (ok' := fun k_ => some k_ ≠ (.slice Ao75 t729.length co75 : Value).ownBlock ∧ some k_ ≠ (.slice Ao61 t719.length co61 : Value).ownBlock ∧ some k_ ≠ (.slice Ao71 t725.length co71 : Value).ownBlock ∧ some k_ ≠ (.slice Ao84 t734.length co84 : Value).ownBlock ∧ some k_ ≠ (.slice Ao127 t742.length co127 : Value).ownBlock ∧ some k_ ≠ (.slice Ao131 t748.length co131 : Value).ownBlock ∧ some k_ ≠ (.slice Ao134 t752.length co134 : Value).ownBlock) (Kd.R_keptB (HO_717002.out) hkp (fun k_ hk_ hs_ => (hk_.1.1.1.2.1) hs_)) (fun k_ hk_ => ⟨hk_.1.1.1.1.1, hk_.1.1.1.1.2.1, hk_.1.1.1.1.2.2.1, hk_.1.1.1.1.2.2.2, hk_.1.1.1.2, hk_.1.1.2, hk_.1.2⟩)); replace HO_729002 := Aside0.mk (Kd.R_mono (ok' := fun k_ => some k_ ≠ (.slice Ao75 t729.length co75 : Value).ownBlock ∧ some k_ ≠ (.slice Ao51 t712.length co51 : Value).ownBlock ∧ some k_ ≠ (.slice Ao61 t719.length co61 : Value).ownBlock ∧ some k_ ≠ (.slice Ao84 t734.length co84 : Value).ownBlock ∧ some k_ ≠ (.slice Ao127 t742.length co127 : Value).ownBlock ∧ some k_ ≠ (.slice Ao131 t748.length co131 : Value).ownBlock ∧ some k_ ≠ (.slice Ao134 t752.length co134 : Value).ownBlock) (Kd.R_keptB (HO_729002.out) hkp (fun k_ hk_ hs_ => (hk_.1.1.1.2.2.1) hs_)) (fun k_ hk_ => ⟨hk_.1.1.1.1.1, hk_.1.1.1.1.2.1, hk_.1.1.1.1.2.2.1, hk_.1.1.1.1.2.2.2, hk_.1.1.1.2, hk_.1.1.2, hk_.1.2⟩)); replace HO_739002 := Aside0.mk (Kd.R_mono (ok' := fun k_ => some k_ ≠ (.slice Ao75 t729.length co75 : Value).ownBlock ∧ some k_ ≠ (.slice Ao51 t712.length co51 : Value).ownBlock ∧ some k_ ≠ (.slice Ao61 t719.length co61 : Value).ownBlock ∧ some k_ ≠ (.slice Ao71 t725.length co71 : Value).ownBlock ∧ some k_ ≠ (.slice Ao127 t742.length co127 : Value).ownBlock ∧ some k_ ≠ (.slice Ao131 t748.length co131 : Value).ownBlock ∧ some k_ ≠ (.slice Ao134 t752.length co134 : Value).ownBlock) (Kd.R_keptB (HO_739002.out) hkp (fun k_ hk_ hs_ => (hk_.1.1.1.2.2.1) hs_)) (fun k_ hk_ => ⟨hk_.1.1.1.1.1, hk_.1.1.1.1.2.1, hk_.1.1.1.1.2.2.1, hk_.1.1.1.1.2.2.2, hk_.1.1.1.2, hk_.1.1.2, hk_.1.2⟩)); replace BK693 := Aside0.mk (blk_kept BK693.out hkp (fun hs_ => (fun e_ => (Kd.R_ne HO_723002.out BK693.out (by decide)) e_) hs_)); replace BK694 := Aside0.mk (blk_kept BK694.out hkp (fun hs_ => (fun e_ => (Kd.R_ne HO_723002.out BK694.out (by decide)) e_) hs_)); replace BK716 := Aside0.mk (blk_kept BK716.out hkp (fun hs_ => (fun e_ => (Kd.R_ne HO_723002.out BK716.out (by decide)) e_) hs_)); replace BK722 := Aside0.mk (blk_kept BK722.out hkp (fun hs_ => (fun e_ => (Kd.R_ne HO_723002.out BK722.out (by decide)) e_) hs_)); replace BK728 := Aside0.mk (blk_kept BK728.out hkp (fun hs_ => (fun e_ => (Kd.R_ne HO_723002.out BK728.out (by decide)) e_) hs_)); replace BK738 := Aside0.mk (blk_kept BK738.out hkp (fun hs_ => (fun e_ => (Kd.R_ne HO_723002.out BK738.out (by decide)) e_) hs_)); replace HO_723002 := Aside0.mk (Kd.R_reok rfl hy0 (fun k_ e_ => HO_723002.out.1 k_ e_)); replace HO744 := Aside0.mk (Kd.R_mono (ok' := fun k_ => some k_ ≠ (.slice Ao75 t729.length co75 : Value).ownBlock ∧ some k_ ≠ (.slice Ao51 t712.length co51 : Value).ownBlock ∧ some k_ ≠ (.slice Ao61 t719.length co61 : Value).ownBlock ∧ some k_ ≠ (.slice Ao71 t725.length co71 : Value).ownBlock ∧ some k_ ≠ (.slice Ao84 t734.length co84 : Value).ownBlock ∧ some k_ ≠ (.slice Ao131 t748.length co131 : Value).ownBlock ∧ some k_ ≠ (.slice Ao134 t752.length co134 : Value).ownBlock) (Kd.R_keptB (HO744.out) hkp (fun k_ hk_ hs_ => (hk_.1.1.1.1.2) hs_)) (fun k_ hk_ => ⟨hk_.1.1.1.1.1.1.1.2, hk_.1.1.1.1.1.1.2, hk_.1.1.1.1.1.2, hk_.1.1.1.1.2, hk_.1.1.1.2, hk_.1.1.2, hk_.1.2⟩)); replace HO750 := Aside0.mk (Kd.R_mono (ok' := fun k_ => some k_ ≠ (.slice Ao75 t729.length co75 : Value).ownBlock ∧ some k_ ≠ (.slice Ao51 t712.length co51 : Value).ownBlock ∧ some k_ ≠ (.slice Ao61 t719.length co61 : Value).ownBlock ∧ some k_ ≠ (.slice Ao71 t725.length co71 : Value).ownBlock ∧ some k_ ≠ (.slice Ao84 t734.length co84 : Value).ownBlock ∧ some k_ ≠ (.slice Ao127 t742.length co127 : Value).ownBlock ∧ some k_ ≠ (.slice Ao134 t752.length co134 : Value).ownBlock) (Kd.R_keptB (HO750.out) hkp (fun k_ hk_ hs_ => (hk_.1.1.1.1.2) hs_)) (fun k_ hk_ => ⟨hk_.1.1.1.1.1.1.1.2, hk_.1.1.1.1.1.1.2, hk_.1.1.1.1.1.2, hk_.1.1.1.1.2, hk_.1.1.1.2, hk_.1.1.2, hk_.1.2⟩)); replace HO754 := Aside0.mk (Kd.R_mono (ok' := fun k_ => some k_ ≠ (.slice Ao75 t729.length co75 : Value).ownBlock ∧ some k_ ≠ (.slice Ao51 t712.length co51 : Value).ownBlock ∧ some k_ ≠ (.slice Ao61 t719.length co61 : Value).ownBlock ∧ some k_ ≠ (.slice Ao71 t725.length co71 : Value).ownBlock ∧ some k_ ≠ (.slice Ao84 t734.length co84 : Value).ownBlock ∧ some k_ ≠ (.slice Ao127 t742.length co127 : Value).ownBlock ∧ some k_ ≠ (.slice Ao131 t748.length co131 : Value).ownBlock) (Kd.R_keptB (HO754.out) hkp (fun k_ hk_ hs_ => (hk_.1.1.1.1.2) hs_)) (fun k_ hk_ => ⟨hk_.1.1.1.1.1.1.1.2, hk_.1.1.1.1.1.1.2, hk_.1.1.1.1.1.2, hk_.1.1.1.1.2, hk_.1.1.1.2, hk_.1.1.2, hk_.1.2⟩)); replace HB := Aside0.mk (hb); (try clear hb); (try clear hkp); (try clear hy0); have hnb142 := NB728_693.out; have hnc142 := NB693_728.out; have hnb143 := NB728_694.out; have hnc143 := NB694_728.out; have hnb144 := NB728_716.out; have hnc144 := NB716_728.out; have hnb145 := NB728_738.out; have hnc145 := NB738_728.out; have hcz146_0 : w141.cell? ⟨gb728, 0, none⟩ = some (.int .i64 t723) := bc_ BK728 0 rfl; have hcz146_1 : w141.cell? ⟨gb728, 1, none⟩ = some (.int .i64 t724) := bc_ BK728 1 rfl; have hcz146_2 : w141.cell? ⟨gb728, 2, none⟩ = some (.slice Ao71 t725.length co71) := bc_ BK728 2 rfl; have hfz146_0 := blk_frozen BK728.out 0; have hfz146_1 := blk_frozen BK728.out 1; have hfz146_2 := blk_frozen BK728.out 2) | ((with_reducible refine gate_callee (f := 27) rfl ?_); refine goesL_ (some 85) rfl rfl Try.func27 (by kernel_rfl) rfl #[.agg #[.int .i64 t723, .int .i64 t724, .slice Ao71 t725.length co71], .int .i64 t756] rfl mc173 ?_; (with_reducible refine (laws_markField.calls kj30 t723 t724 (fun k_ => some k_ = (.slice Ao71 t725.length co71 : Value).ownBlock) (.slice Ao71 t725.length co71) t725 t756 t758 t759 w _ ?side1 ?side2 A122.out).mono ?_); (case side1 => exact mc52); (case side2 => exact Kd.R_tight rfl HO_729002.out); rintro e w147 ⟨rfl, hy0, hb, hkp⟩; refine ⟨_, rfl, ?_⟩; replace HO_12 := Aside0.mk (Kd.R_mono (ok' := fun k_ => some k_ ≠ (.slice Ao51 t712.length co51 : Value).ownBlock ∧ some k_ ≠ (.slice Ao61 t719.length co61 : Value).ownBlock ∧ some k_ ≠ (.slice Ao71 t725.length co71 : Value).ownBlock ∧ some k_ ≠ (.slice Ao84 t734.length co84 : Value).ownBlock ∧ some k_ ≠ (.slice Ao127 t742.length co127 : Value).ownBlock ∧ some k_ ≠ (.slice Ao131 t748.length co131 : Value).ownBlock ∧ some k_ ≠ (.slice Ao134 t752.length co134 : Value).ownBlock) (Kd.R_keptB (HO_12.out) hkp (fun k_ hk_ hs_ => (hk_.2.2.1) hs_)) (fun k_ hk_ => ⟨hk_.1.1, hk_.1.2.1, hk_.1.2.2.1, hk_.1.2.2.2.1, hk_.1.2.2.2.2.1, hk_.1.2.2.2.2.2.1, hk_.1.2.2.2.2.2.2⟩)); replace HO_717002 := Aside0.mk (Kd.R_mono (ok' := fun k_ => some k_ ≠ (.slice Ao75 t729.length co75 : Value).ownBlock ∧ some k_ ≠ (.slice Ao61 t719.length co61 : Value).ownBlock ∧ some k_ ≠ (.slice Ao71 t725.length co71 : Value).ownBlock ∧ some k_ ≠ (.slice Ao84 t734.length co84 : Value).ownBlock ∧ some k_ ≠ (.slice Ao127 t742.length co127 : Value).ownBlock ∧ some k_ ≠ (.slice Ao131 t748.length co131 : Value).ownBlock ∧ some k_ ≠ (.slice Ao134 t752.length co134 : Value).ownBlock) (Kd.R_keptB (HO_717002.out) hkp (fun k_ hk_ hs_ => (hk_.2.2.1) hs_)) (fun k_ hk_ => ⟨hk_.1.1, hk_.1.2.1, hk_.1.2.2.1, hk_.1.2.2.2.1, hk_.1.2.2.2.2.1, hk_.1.2.2.2.2.2.1, hk_.1.2.2.2.2.2.2⟩)); replace HO_723002 := Aside0.mk (Kd.R_mono (ok' := fun k_ => some k_ ≠ (.slice Ao75 t729.length co75 : Value).ownBlock ∧ some k_ ≠ (.slice Ao51 t712.length co51 : Value).ownBlock ∧ some k_ ≠ (.slice Ao71 t725.length co71 : Value).ownBlock ∧ some k_ ≠ (.slice Ao84 t734.length co84 : Value).ownBlock ∧ some k_ ≠ (.slice Ao127 t742.length co127 : Value).ownBlock ∧ some k_ ≠ (.slice Ao131 t748.length co131 : Value).ownBlock ∧ some k_ ≠ (.slice Ao134 t752.length co134 : Value).ownBlock) (Kd.R_keptB (HO_723002.out) hkp (fun k_ hk_ hs_ => (hk_.1.1.1.2.2.1) hs_)) (fun k_ hk_ => ⟨hk_.1.1.1.1.1, hk_.1.1.1.1.2.1, hk_.1.1.1.1.2.2.1, hk_.1.1.1.1.2.2.2, hk_.1.1.1.2, hk_.1.1.2, hk_.1.2⟩)); replace HO_739002 := Aside0.mk (Kd.R_mono (ok' := fun k_ => some k_ ≠ (.slice Ao75 t729.length co75 : Value).ownBlock ∧ some k_ ≠ (.slice Ao51 t712.length co51 : Value).ownBlock ∧ some k_ ≠ (.slice Ao61 t719.length co61 : Value).ownBlock ∧ some k_ ≠ (.slice Ao71 t725.length co71 : Value).ownBlock ∧ some k_ ≠ (.slice Ao127 t742.length co127 : Value).ownBlock ∧ some k_ ≠ (.slice Ao131 t748.length co131 : Value).ownBlock ∧ some k_ ≠ (.slice Ao134 t752.length co134 : Value).ownBlock) (Kd.R_keptB (HO_739002.out) hkp (fun k_ hk_ hs_ => (hk_.2.2.2.1) hs_)) (fun k_ hk_ => ⟨hk_.1.1, hk_.1.2.1, hk_.1.2.2.1, hk_.1.2.2.2.1, hk_.1.2.2.2.2.1, hk_.1.2.2.2.2.2.1, hk_.1.2.2.2.2.2.2⟩)); replace BK693 := Aside0.mk (blk_kept BK693.out hkp (fun hs_ => (fun e_ => (Kd.R_ne HO_729002.out BK693.out (by decide)) e_) hs_)); replace BK694 := Aside0.mk (blk_kept BK694.out hkp (fun hs_ => (fun e_ => (Kd.R_ne HO_729002.out BK694.out (by decide)) e_) hs_)); replace BK716 := Aside0.mk (blk_kept BK716.out hkp (fun hs_ => (fun e_ => (Kd.R_ne HO_729002.out BK716.out (by decide)) e_) hs_)); replace BK722 := Aside0.mk (blk_kept BK722.out hkp (fun hs_ => (fun e_ => (Kd.R_ne HO_729002.out BK722.out (by decide)) e_) hs_)); replace BK728 := Aside0.mk (blk_kept BK728.out hkp (fun hs_ => (fun e_ => (Kd.R_ne HO_729002.out BK728.out (by decide)) e_) hs_)); replace BK738 := Aside0.mk (blk_kept BK738.out hkp (fun hs_ => (fun e_ => (Kd.R_ne HO_729002.out BK738.out (by decide)) e_) hs_)); replace HO_729002 := Aside0.mk (Kd.R_reok rfl hy0 (fun k_ e_ => HO_729002.out.1 k_ e_)); replace HO744 := Aside0.mk (Kd.R_mono (ok' := fun k_ => some k_ ≠ (.slice Ao75 t729.length co75 : Value).ownBlock ∧ some k_ ≠ (.slice Ao51 t712.length co51 : Value).ownBlock ∧ some k_ ≠ (.slice Ao61 t719.length co61 : Value).ownBlock ∧ some k_ ≠ (.slice Ao71 t725.length co71 : Value).ownBlock ∧ some k_ ≠ (.slice Ao84 t734.length co84 : Value).ownBlock ∧ some k_ ≠ (.slice Ao131 t748.length co131 : Value).ownBlock ∧ some k_ ≠ (.slice Ao134 t752.length co134 : Value).ownBlock) (Kd.R_keptB (HO744.out) hkp (fun k_ hk_ hs_ => (hk_.2.2.2.1) hs_)) (fun k_ hk_ => ⟨hk_.1.1, hk_.1.2.1, hk_.1.2.2.1, hk_.1.2.2.2.1, hk_.1.2.2.2.2.1, hk_.1.2.2.2.2.2.1, hk_.1.2.2.2.2.2.2⟩)); replace HO750 := Aside0.mk (Kd.R_mono (ok' := fun k_ => some k_ ≠ (.slice Ao75 t729.length co75 : Value).ownBlock ∧ some k_ ≠ (.slice Ao51 t712.length co51 : Value).ownBlock ∧ some k_ ≠ (.slice Ao61 t719.length co61 : Value).ownBlock ∧ some k_ ≠ (.slice Ao71 t725.length co71 : Value).ownBlock ∧ some k_ ≠ (.slice Ao84 t734.length co84 : Value).ownBlock ∧ some k_ ≠ (.slice Ao127 t742.length co127 : Value).ownBlock ∧ some k_ ≠ (.slice Ao134 t752.length co134 : Value).ownBlock) (Kd.R_keptB (HO750.out) hkp (fun k_ hk_ hs_ => (hk_.2.2.2.1) hs_)) (fun k_ hk_ => ⟨hk_.1.1, hk_.1.2.1, hk_.1.2.2.1, hk_.1.2.2.2.1, hk_.1.2.2.2.2.1, hk_.1.2.2.2.2.2.1, hk_.1.2.2.2.2.2.2⟩)); replace HO754 := Aside0.mk (Kd.R_mono (ok' := fun k_ => some k_ ≠ (.slice Ao75 t729.length co75 : Value).ownBlock ∧ some k_ ≠ (.slice Ao51 t712.length co51 : Value).ownBlock ∧ some k_ ≠ (.slice Ao61 t719.length co61 : Value).ownBlock ∧ some k_ ≠ (.slice Ao71 t725.length co71 : Value).ownBlock ∧ some k_ ≠ (.slice Ao84 t734.length co84 : Value).ownBlock ∧ some k_ ≠ (.slice Ao127 t742.length co127 : Value).ownBlock ∧ some k_ ≠ (.slice Ao131 t748.length co131 : Value).ownBlock) (Kd.R_keptB (HO754.out) hkp (fun k_ hk_ hs_ => (hk_.2.2.2.1) hs_)) (fun k_ hk_ => ⟨hk_.1.1, hk_.1.2.1, hk_.1.2.2.1, hk_.1.2.2.2.1, hk_.1.2.2.2.2.1, hk_.1.2.2.2.2.2.1, hk_.1.2.2.2.2.2.2⟩)); replace HB := Aside0.mk (hb); (try clear hb); (try clear hkp); (try clear hy0)) | ((with_reducible refine gate_callee (f := 28) rfl ?_); refine goesL_ (some 88) rfl rfl Try.func28 (by kernel_rfl) rfl #[.slice Ao75 t729.length co75, .int .i64 t758] rfl mc173 ?_; (with_reducible refine (laws_markIntS.calls kj30 (fun k_ => some k_ = (.slice Ao75 t729.length co75 : Value).ownBlock) (.slice Ao75 t729.length co75) t729 t758 t760 t761 w _ ?side1 ?side2 A123.out).mono ?_); (case side1 => exact mc52); (case side2 => exact Kd.R_tight rfl HO_12.out); rintro e w148 ⟨rfl, hy0, hb, hkp⟩; refine ⟨_, rfl, ?_⟩; replace HO_717002 := Aside0.mk (Kd.R_mono (ok' := fun k_ => some k_ ≠ (.slice Ao75 t729.length co75 : Value).ownBlock ∧ some k_ ≠ (.slice Ao61 t719.length co61 : Value).ownBlock ∧ some k_ ≠ (.slice Ao71 t725.length co71 : Value).ownBlock ∧ some k_ ≠ (.slice Ao84 t734.length co84 : Value).ownBlock ∧ some k_ ≠ (.slice Ao127 t742.length co127 : Value).ownBlock ∧ some k_ ≠ (.slice Ao131 t748.length co131 : Value).ownBlock ∧ some k_ ≠ (.slice Ao134 t752.length co134 : Value).ownBlock) (Kd.R_keptB (HO_717002.out) hkp (fun k_ hk_ hs_ => (hk_.1) hs_)) (fun k_ hk_ => ⟨hk_.1.1, hk_.1.2.1, hk_.1.2.2.1, hk_.1.2.2.2.1, hk_.1.2.2.2.2.1, hk_.1.2.2.2.2.2.1, hk_.1.2.2.2.2.2.2⟩)); replace HO_723002 := Aside0.mk (Kd.R_mono (ok' := fun k_ => some k_ ≠ (.slice Ao75 t729.length co75 : Value).ownBlock ∧ some k_ ≠ (.slice Ao51 t712.length co51 : Value).ownBlock ∧ some k_ ≠ (.slice Ao71 t725.length co71 : Value).ownBlock ∧ some k_ ≠ (.slice Ao84 t734.length co84 : Value).ownBlock ∧ some k_ ≠ (.slice Ao127 t742.length co127 : Value).ownBlock ∧ some k_ ≠ (.slice Ao131 t748.length co131 : Value).ownBlock ∧ some k_ ≠ (.slice Ao134 t752.length co134 : Value).ownBlock) (Kd.R_keptB (HO_723002.out) hkp (fun k_ hk_ hs_ => (hk_.1) hs_)) (fun k_ hk_ => ⟨hk_.1.1, hk_.1.2.1, hk_.1.2.2.1, hk_.1.2.2.2.1, hk_.1.2.2.2.2.1, hk_.1.2.2.2.2.2.1, hk_.1.2.2.2.2.2.2⟩)); replace HO_729002 := Aside0.mk (Kd.R_mono (ok' := fun k_ => some k_ ≠ (.slice Ao75 t729.length co75 : Value).ownBlock ∧ some k_ ≠ (.slice Ao51 t712.length co51 : Value).ownBlock ∧ some k_ ≠ (.slice Ao61 t719.length co61 : Value).ownBlock ∧ some k_ ≠ (.slice Ao84 t734.length co84 : Value).ownBlock ∧ some k_ ≠ (.slice Ao127 t742.length co127 : Value).ownBlock ∧ some k_ ≠ (.slice Ao131 t748.length co131 : Value).ownBlock ∧ some k_ ≠ (.slice Ao134 t752.length co134 : Value).ownBlock) (Kd.R_keptB (HO_729002.out) hkp (fun k_ hk_ hs_ => (hk_.1) hs_)) (fun k_ hk_ => ⟨hk_.1.1, hk_.1.2.1, hk_.1.2.2.1, hk_.1.2.2.2.1, hk_.1.2.2.2.2.1, hk_.1.2.2.2.2.2.1, hk_.1.2.2.2.2.2.2⟩)); replace HO_739002 := Aside0.mk (Kd.R_mono (ok' := fun k_ => some k_ ≠ (.slice Ao75 t729.length co75 : Value).ownBlock ∧ some k_ ≠ (.slice Ao51 t712.length co51 : Value).ownBlock ∧ some k_ ≠ (.slice Ao61 t719.length co61 : Value).ownBlock ∧ some k_ ≠ (.slice Ao71 t725.length co71 : Value).ownBlock ∧ some k_ ≠ (.slice Ao127 t742.length co127 : Value).ownBlock ∧ some k_ ≠ (.slice Ao131 t748.length co131 : Value).ownBlock ∧ some k_ ≠ (.slice Ao134 t752.length co134 : Value).ownBlock) (Kd.R_keptB (HO_739002.out) hkp (fun k_ hk_ hs_ => (hk_.1) hs_)) (fun k_ hk_ => ⟨hk_.1.1, hk_.1.2.1, hk_.1.2.2.1, hk_.1.2.2.2.1, hk_.1.2.2.2.2.1, hk_.1.2.2.2.2.2.1, hk_.1.2.2.2.2.2.2⟩)); replace BK693 := Aside0.mk (blk_kept BK693.out hkp (fun hs_ => (fun e_ => (Kd.R_ne HO_12.out BK693.out (by decide)) e_) hs_)); replace BK694 := Aside0.mk (blk_kept BK694.out hkp (fun hs_ => (fun e_ => (Kd.R_ne HO_12.out BK694.out (by decide)) e_) hs_)); replace BK716 := Aside0.mk (blk_kept BK716.out hkp (fun hs_ => (fun e_ => (Kd.R_ne HO_12.out BK716.out (by decide)) e_) hs_)); replace BK722 := Aside0.mk (blk_kept BK722.out hkp (fun hs_ => (fun e_ => (Kd.R_ne HO_12.out BK722.out (by decide)) e_) hs_)); replace BK728 := Aside0.mk (blk_kept BK728.out hkp (fun hs_ => (fun e_ => (Kd.R_ne HO_12.out BK728.out (by decide)) e_) hs_)); replace BK738 := Aside0.mk (blk_kept BK738.out hkp (fun hs_ => (fun e_ => (Kd.R_ne HO_12.out BK738.out (by decide)) e_) hs_)); replace HO_12 := Aside0.mk (Kd.R_reok rfl hy0 (fun k_ e_ => HO_12.out.1 k_ e_)); replace HO744 := Aside0.mk (Kd.R_mono (ok' := fun k_ => some k_ ≠ (.slice Ao75 t729.length co75 : Value).ownBlock ∧ some k_ ≠ (.slice Ao51 t712.length co51 : Value).ownBlock ∧ some k_ ≠ (.slice Ao61 t719.length co61 : Value).ownBlock ∧ some k_ ≠ (.slice Ao71 t725.length co71 : Value).ownBlock ∧ some k_ ≠ (.slice Ao84 t734.length co84 : Value).ownBlock ∧ some k_ ≠ (.slice Ao131 t748.length co131 : Value).ownBlock ∧ some k_ ≠ (.slice Ao134 t752.length co134 : Value).ownBlock) (Kd.R_keptB (HO744.out) hkp (fun k_ hk_ hs_ => (hk_.1) hs_)) (fun k_ hk_ => ⟨hk_.1.1, hk_.1.2.1, hk_.1.2.2.1, hk_.1.2.2.2.1, hk_.1.2.2.2.2.1, hk_.1.2.2.2.2.2.1, hk_.1.2.2.2.2.2.2⟩)); replace HO750 := Aside0.mk (Kd.R_mono (ok' := fun k_ => some k_ ≠ (.slice Ao75 t729.length co75 : Value).ownBlock ∧ some k_ ≠ (.slice Ao51 t712.length co51 : Value).ownBlock ∧ some k_ ≠ (.slice Ao61 t719.length co61 : Value).ownBlock ∧ some k_ ≠ (.slice Ao71 t725.length co71 : Value).ownBlock ∧ some k_ ≠ (.slice Ao84 t734.length co84 : Value).ownBlock ∧ some k_ ≠ (.slice Ao127 t742.length co127 : Value).ownBlock ∧ some k_ ≠ (.slice Ao134 t752.length co134 : Value).ownBlock) (Kd.R_keptB (HO750.out) hkp (fun k_ hk_ hs_ => (hk_.1) hs_)) (fun k_ hk_ => ⟨hk_.1.1, hk_.1.2.1, hk_.1.2.2.1, hk_.1.2.2.2.1, hk_.1.2.2.2.2.1, hk_.1.2.2.2.2.2.1, hk_.1.2.2.2.2.2.2⟩)); replace HO754 := Aside0.mk (Kd.R_mono (ok' := fun k_ => some k_ ≠ (.slice Ao75 t729.length co75 : Value).ownBlock ∧ some k_ ≠ (.slice Ao51 t712.length co51 : Value).ownBlock ∧ some k_ ≠ (.slice Ao61 t719.length co61 : Value).ownBlock ∧ some k_ ≠ (.slice Ao71 t725.length co71 : Value).ownBlock ∧ some k_ ≠ (.slice Ao84 t734.length co84 : Value).ownBlock ∧ some k_ ≠ (.slice Ao127 t742.length co127 : Value).ownBlock ∧ some k_ ≠ (.slice Ao131 t748.length co131 : Value).ownBlock) (Kd.R_keptB (HO754.out) hkp (fun k_ hk_ hs_ => (hk_.1) hs_)) (fun k_ hk_ => ⟨hk_.1.1, hk_.1.2.1, hk_.1.2.2.1, hk_.1.2.2.2.1, hk_.1.2.2.2.2.1, hk_.1.2.2.2.2.2.1, hk_.1.2.2.2.2.2.2⟩)); replace HB := Aside0.mk (hb); (try clear hb); (try clear hkp); (try clear hy0)))
    (try simp only [Act.put, List.setIfInBounds_toArray, List.set_cons_zero, List.set_cons_succ])
    go_cut [101] (fun v101 wc => ∃ (kq : Nat) (x101_123 : Bool), v101 = .bool x101_123 ∧ Aside0 (laws_FnExactCopyRegion.j1 kq l2 t715 x101_123 a0_0 a0_1 l0_2 a1_0 a1_1 l1_2 t710 t711 t712 t732 t733 t734 = some r) ∧ Aside0 (kq ≤ kj30) ∧ Aside0 (Kd.R (Kd.int .i64) 3 wc w.heap.size (fun k_ => some k_ ≠ ((.slice Ao61 t719.length co61) : Value).ownBlock ∧ some k_ ≠ ((.slice Ao71 t725.length co71) : Value).ownBlock ∧ some k_ ≠ ((.slice Ao84 t734.length co84) : Value).ownBlock) (.slice Ao51 t712.length co51) t712) ∧ Aside0 (Kd.R (Kd.int .i64) 3 wc w.heap.size (fun k_ => some k_ ≠ ((.slice Ao51 t712.length co51) : Value).ownBlock ∧ some k_ ≠ ((.slice Ao71 t725.length co71) : Value).ownBlock ∧ some k_ ≠ ((.slice Ao84 t734.length co84) : Value).ownBlock) (.slice Ao61 t719.length co61) t757) ∧ Aside0 (Kd.R (Kd.int .i64) 3 wc w.heap.size (fun k_ => some k_ ≠ ((.slice Ao51 t712.length co51) : Value).ownBlock ∧ some k_ ≠ ((.slice Ao61 t719.length co61) : Value).ownBlock ∧ some k_ ≠ ((.slice Ao84 t734.length co84) : Value).ownBlock) (.slice Ao71 t725.length co71) t759) ∧ Aside0 (Kd.R (Kd.int .i64) 3 wc w.heap.size (fun k_ => some k_ ≠ ((.slice Ao51 t712.length co51) : Value).ownBlock ∧ some k_ ≠ ((.slice Ao61 t719.length co61) : Value).ownBlock ∧ some k_ ≠ ((.slice Ao71 t725.length co71) : Value).ownBlock) (.slice Ao84 t734.length co84) t734) ∧ Aside0 (wc.heap[gb693]? = some (.cells #[.int .i64 a0_0, .int .i64 a0_1, (.slice A0_2 l0_2.length c0_2)] 36 (0, 0))) ∧ Aside0 (wc.heap[gb694]? = some (.cells #[.int .i64 a1_0, .int .i64 a1_1, (.slice A1_2 l1_2.length c1_2)] 36 (0, 0))) ∧ Aside0 (wc.heap[gb716]? = some (.cells #[.int .i64 t710, .int .i64 t711, (.slice Ao51 t712.length co51)] 26 (0, 0))) ∧ Aside0 (wc.heap[gb722]? = some (.cells #[.int .i64 t717, .int .i64 t718, (.slice Ao61 t719.length co61)] 26 (0, 0))) ∧ Aside0 (wc.heap[gb728]? = some (.cells #[.int .i64 t723, .int .i64 t724, (.slice Ao71 t725.length co71)] 26 (0, 0))) ∧ Aside0 (wc.heap[gb738]? = some (.cells #[.int .i64 t732, .int .i64 t733, (.slice Ao84 t734.length co84)] 26 (0, 0))) ∧ Aside0 (Below w.heap.size w wc))
    case first =>
     as_aux_lemma =>
      have H := HC124.out
      clear HC124
      by_cases c149 : t760 < 0
      ·
       rw [if_pos c149] at H
       have c149b0 : decide (t760 < 0) = true := decide_eq_true c149
       clear c149
       (first | rw [c149b0] | (simp only [i64_w, i32_w]; rw [c149b0]) | skip)
       have H' := Aside0.mk H
       clear H
       go_wp2
       go_meet
       case rel => exact ⟨_, (true), mc241, H', ⟨by have := HJ30.out; first | omega | exact Nat.le_refl _⟩, ⟨mc146⟩, ⟨mc147⟩, ⟨mc148⟩, ⟨mc149⟩, ⟨mc198⟩, ⟨mc199⟩, ⟨mc200⟩, ⟨mc201⟩, ⟨mc202⟩, ⟨mc203⟩, ⟨mc52⟩⟩
      rw [if_neg c149] at H
      have c149b0 : decide (t760 < 0) = false := decide_eq_false c149
      clear c149
      (first | rw [c149b0] | (simp only [i64_w, i32_w]; rw [c149b0]) | skip)
      obtain ⟨t762, A1500, H⟩ := oB_ H
      have A150 := Aside0.mk A1500
      clear A1500
      by_cases c151 : t762 = true
      ·
       subst c151
       rw [if_pos rfl] at H
       have H' := Aside0.mk H
       clear H
       have hnb152 := NB738_693.out
       have hnc152 := NB693_738.out
       have hnb153 := NB738_694.out
       have hnc153 := NB694_738.out
       have hnb154 := NB738_716.out
       have hnc154 := NB716_738.out
       have hnb155 := NB738_722.out
       have hnc155 := NB722_738.out
       have hnb156 := NB738_728.out
       have hnc156 := NB728_738.out
       have hcz157_0 : w148.cell? ⟨gb738, 0, none⟩ = some (.int .i64 t732) := bc_ BK738 0 rfl
       have hcz157_1 : w148.cell? ⟨gb738, 1, none⟩ = some (.int .i64 t733) := bc_ BK738 1 rfl
       have hcz157_2 : w148.cell? ⟨gb738, 2, none⟩ = some (.slice Ao84 t734.length co84) := bc_ BK738 2 rfl
       have hfz157_0 := blk_frozen BK738.out 0
       have hfz157_1 := blk_frozen BK738.out 1
       have hfz157_2 := blk_frozen BK738.out 2
       have hnb158 := NB716_693.out
       have hnc158 := NB693_716.out
       have hnb159 := NB716_694.out
       have hnc159 := NB694_716.out
       have hnb160 := NB716_722.out
       have hnc160 := NB722_716.out
       have hnb161 := NB716_728.out
       have hnc161 := NB728_716.out
       have hcz162_0 : w148.cell? ⟨gb716, 0, none⟩ = some (.int .i64 t710) := bc_ BK716 0 rfl
       have hcz162_1 : w148.cell? ⟨gb716, 1, none⟩ = some (.int .i64 t711) := bc_ BK716 1 rfl
       have hcz162_2 : w148.cell? ⟨gb716, 2, none⟩ = some (.slice Ao51 t712.length co51) := bc_ BK716 2 rfl
       have hfz162_0 := blk_frozen BK716.out 0
       have hfz162_1 := blk_frozen BK716.out 1
       have hfz162_2 := blk_frozen BK716.out 2
       go_wp2_with (first | (go_at_call 25; (with_reducible refine (laws_eqField.calls kj30 t732 t733 _ _ t734 t710 t711 _ _ t712 true _ ?side1 ?side2 ?side3 ?side4 A150.out).mono ?_); (case side1 => exact mc131); (case side2 => exact (Kd.R_reads' HO_739002.out).2.1); (case side3 => repeat (first | exact (Kd.R_reads' HO_717002.out).2.2 | (with_reducible refine Kd.C_alloc ?_ _) | (with_reducible refine Kd.C_drewN ?_ _) | (with_reducible refine Kd.C_drew ?_))); (case side4 => exact (Kd.R_reads' HO_717002.out).2.1); rintro e w163 ⟨rfl, hb⟩; replace HO_12 := Aside0.mk (Kd.R_below mc219 hb); replace HO_717002 := Aside0.mk (Kd.R_below mc204 hb); replace HO_723002 := Aside0.mk (Kd.R_below mc205 hb); replace HO_729002 := Aside0.mk (Kd.R_below mc206 hb); replace HO_739002 := Aside0.mk (Kd.R_below mc207 hb); replace HO744 := Aside0.mk (Kd.R_below mc220 hb); replace HO750 := Aside0.mk (Kd.R_below mc221 hb); replace HO754 := Aside0.mk (Kd.R_below (by (with_reducible repeat (first | apply Kd.R_alloc | apply Kd.R_drewN | apply Kd.R_drew)); exact HO754.out) hb); replace BK693 := Aside0.mk (blk_below BK693.out hb); replace BK694 := Aside0.mk (blk_below BK694.out hb); replace BK716 := Aside0.mk (blk_below BK716.out hb); replace BK722 := Aside0.mk (blk_below BK722.out hb); replace BK728 := Aside0.mk (blk_below BK728.out hb); replace BK738 := Aside0.mk (blk_below BK738.out hb); replace HB := Aside0.mk (below_step mc52 hb); (try clear hb); (try clear hk)))
       go_meet
       case rel => exact ⟨_, ((t737 != t715)), mc241, H', ⟨by have := HJ30.out; first | omega | exact Nat.le_refl _⟩, ⟨mc146⟩, ⟨mc147⟩, ⟨mc148⟩, ⟨mc149⟩, ⟨mc198⟩, ⟨mc199⟩, ⟨mc200⟩, ⟨mc201⟩, ⟨mc202⟩, ⟨mc203⟩, ⟨mc52⟩⟩
      replace c151 := Bool.eq_false_iff.mpr c151
      subst c151
      rw [if_neg (show ¬ (false = true) by decide)] at H
      have H' := Aside0.mk H
      clear H
      have hnb164 := NB738_693.out
      have hnc164 := NB693_738.out
      have hnb165 := NB738_694.out
      have hnc165 := NB694_738.out
      have hnb166 := NB738_716.out
      have hnc166 := NB716_738.out
      have hnb167 := NB738_722.out
      have hnc167 := NB722_738.out
      have hnb168 := NB738_728.out
      have hnc168 := NB728_738.out
      have hcz169_0 : w148.cell? ⟨gb738, 0, none⟩ = some (.int .i64 t732) := bc_ BK738 0 rfl
      have hcz169_1 : w148.cell? ⟨gb738, 1, none⟩ = some (.int .i64 t733) := bc_ BK738 1 rfl
      have hcz169_2 : w148.cell? ⟨gb738, 2, none⟩ = some (.slice Ao84 t734.length co84) := bc_ BK738 2 rfl
      have hfz169_0 := blk_frozen BK738.out 0
      have hfz169_1 := blk_frozen BK738.out 1
      have hfz169_2 := blk_frozen BK738.out 2
      have hnb170 := NB716_693.out
      have hnc170 := NB693_716.out
      have hnb171 := NB716_694.out
      have hnc171 := NB694_716.out
      have hnb172 := NB716_722.out
      have hnc172 := NB722_716.out
      have hnb173 := NB716_728.out
      have hnc173 := NB728_716.out
      have hcz174_0 : w148.cell? ⟨gb716, 0, none⟩ = some (.int .i64 t710) := bc_ BK716 0 rfl
      have hcz174_1 : w148.cell? ⟨gb716, 1, none⟩ = some (.int .i64 t711) := bc_ BK716 1 rfl
      have hcz174_2 : w148.cell? ⟨gb716, 2, none⟩ = some (.slice Ao51 t712.length co51) := bc_ BK716 2 rfl
      have hfz174_0 := blk_frozen BK716.out 0
      have hfz174_1 := blk_frozen BK716.out 1
      have hfz174_2 := blk_frozen BK716.out 2
      go_wp2_with (first | (go_at_call 25; (with_reducible refine (laws_eqField.calls kj30 t732 t733 _ _ t734 t710 t711 _ _ t712 false _ ?side1 ?side2 ?side3 ?side4 A150.out).mono ?_); (case side1 => exact mc131); (case side2 => exact (Kd.R_reads' HO_739002.out).2.1); (case side3 => repeat (first | exact (Kd.R_reads' HO_717002.out).2.2 | (with_reducible refine Kd.C_alloc ?_ _) | (with_reducible refine Kd.C_drewN ?_ _) | (with_reducible refine Kd.C_drew ?_))); (case side4 => exact (Kd.R_reads' HO_717002.out).2.1); rintro e w175 ⟨rfl, hb⟩; replace HO_12 := Aside0.mk (Kd.R_below mc219 hb); replace HO_717002 := Aside0.mk (Kd.R_below mc204 hb); replace HO_723002 := Aside0.mk (Kd.R_below mc205 hb); replace HO_729002 := Aside0.mk (Kd.R_below mc206 hb); replace HO_739002 := Aside0.mk (Kd.R_below mc207 hb); replace HO744 := Aside0.mk (Kd.R_below mc220 hb); replace HO750 := Aside0.mk (Kd.R_below mc221 hb); replace HO754 := Aside0.mk (Kd.R_below (by (with_reducible repeat (first | apply Kd.R_alloc | apply Kd.R_drewN | apply Kd.R_drew)); exact HO754.out) hb); replace BK693 := Aside0.mk (blk_below BK693.out hb); replace BK694 := Aside0.mk (blk_below BK694.out hb); replace BK716 := Aside0.mk (blk_below BK716.out hb); replace BK722 := Aside0.mk (blk_below BK722.out hb); replace BK728 := Aside0.mk (blk_below BK728.out hb); replace BK738 := Aside0.mk (blk_below BK738.out hb); replace HB := Aside0.mk (below_step mc52 hb); (try clear hb); (try clear hk)))
      go_meet
      case rel => exact ⟨_, (true), mc241, H', ⟨by have := HJ30.out; first | omega | exact Nat.le_refl _⟩, ⟨mc146⟩, ⟨mc147⟩, ⟨mc148⟩, ⟨mc149⟩, ⟨mc198⟩, ⟨mc199⟩, ⟨mc200⟩, ⟨mc201⟩, ⟨mc202⟩, ⟨mc203⟩, ⟨mc52⟩⟩
    case rest =>
     as_aux_lemma =>
      clear HC124
      try clear c1
      try clear c2
      try clear p2
      try clear c11
      try clear c12
      try clear c13
      try clear c14
      try clear c15
      try clear c16
      try clear c17
      try clear c22
      try clear c23
      try clear c25
      try clear c26
      try clear c27
      try clear c28
      try clear c111
      try clear c114
      try clear c117
      try clear c120
      try clear c135
      try clear c136
      try clear c137
      try clear c138
      try clear c139
      try clear c142
      try clear c143
      try clear c144
      try clear c145
      try clear c149
      try clear c149b0
      try clear c151
      try clear c152
      try clear c153
      try clear c154
      try clear c155
      try clear c156
      try clear c158
      try clear c159
      try clear c160
      try clear c161
      try clear c164
      try clear c165
      try clear c166
      try clear c167
      try clear c168
      try clear c170
      try clear c171
      try clear c172
      try clear c173
      try clear hcz140_0
      try clear hcz140_1
      try clear hcz140_2
      try clear hcz146_0
      try clear hcz146_1
      try clear hcz146_2
      try clear hcz157_0
      try clear hcz157_1
      try clear hcz157_2
      try clear hcz162_0
      try clear hcz162_1
      try clear hcz162_2
      try clear hcz169_0
      try clear hcz169_1
      try clear hcz169_2
      try clear hcz174_0
      try clear hcz174_1
      try clear hcz174_2
      try clear hfz140_0
      try clear hfz140_1
      try clear hfz140_2
      try clear hfz146_0
      try clear hfz146_1
      try clear hfz146_2
      try clear hfz157_0
      try clear hfz157_1
      try clear hfz157_2
      try clear hfz162_0
      try clear hfz162_1
      try clear hfz162_2
      try clear hfz169_0
      try clear hfz169_1
      try clear hfz169_2
      try clear hfz174_0
      try clear hfz174_1
      try clear hfz174_2
      try clear hfz60_0
      try clear hfz60_1
      try clear hfz60_2
      try clear hfz63_0
      try clear hfz63_1
      try clear hfz63_2
      try clear hfz70_0
      try clear hfz70_1
      try clear hfz70_2
      try clear hfz73_0
      try clear hfz73_1
      try clear hfz73_2
      try clear hfz74_0
      try clear hfz74_1
      try clear hfz74_2
      try clear hfz83_0
      try clear hfz83_1
      try clear hfz83_2
      try clear hfz92_0
      try clear hfz92_1
      try clear hfz92_2
      try clear hfz97_0
      try clear hfz97_1
      try clear hfz97_2
      obtain ⟨kq, x101_123, rfl, HA, HJ123, HO_717002, HO_723002, HO_729002, HO_739002, BK693, BK694, BK716, BK722, BK728, BK738, HB⟩ := hcut
      have hl723002_123 := (Kd.R_reads' HO_723002.out).1
      rw [hl723002_123] at HO_723002
      (try simp only [hl723002_123])
      (try simp only [hl723002_123] at BK693)
      (try simp only [hl723002_123] at BK694)
      (try simp only [hl723002_123] at BK716)
      (try simp only [hl723002_123] at BK722)
      (try simp only [hl723002_123] at BK728)
      (try simp only [hl723002_123] at BK738)
      (try simp only [hl723002_123] at HO_717002)
      (try simp only [hl723002_123] at HO_729002)
      (try simp only [hl723002_123] at HO_739002)
      have hl729002_123 := (Kd.R_reads' HO_729002.out).1
      rw [hl729002_123] at HO_729002
      (try simp only [hl729002_123])
      (try simp only [hl729002_123] at BK693)
      (try simp only [hl729002_123] at BK694)
      (try simp only [hl729002_123] at BK716)
      (try simp only [hl729002_123] at BK722)
      (try simp only [hl729002_123] at BK728)
      (try simp only [hl729002_123] at BK738)
      (try simp only [hl729002_123] at HO_717002)
      (try simp only [hl729002_123] at HO_723002)
      (try simp only [hl729002_123] at HO_739002)
      cases kq with
      | zero => exact absurd HA.out (by simp [laws_FnExactCopyRegion.j1])
      | succ kj123 =>
       have H := HA.out
       clear HA
       simp only [laws_FnExactCopyRegion.j1] at H
       by_cases c176 : x101_123 = true
       ·
        subst c176
        have H1 : (some false) = some r := by rw [if_pos rfl] at H; exact H
        exact absurd ((Option.some.inj H1).trans hrt_) (by decide)
       replace c176 := Bool.eq_false_iff.mpr c176
       subst c176
       rw [if_neg (show ¬ (false = true) by decide)] at H
       obtain ⟨⟨t763, t764⟩, A1770, H⟩ := oB_ H
       have A177 := Aside0.mk A1770
       clear A1770
       obtain ⟨t765, A1780, H⟩ := oB_ H
       have A178 := Aside0.mk A1780
       clear A1780
       by_cases c179 : t765 < 0
       ·
        rw [if_pos c179] at H
        have c179b0 : decide (t765 < 0) = true := decide_eq_true c179
        clear c179
        exact absurd ((Option.some.inj H).trans hrt_) (by decide)
       rw [if_neg c179] at H
       have c179b0 : decide (t765 < 0) = false := decide_eq_false c179
       clear c179
       by_cases c189 : t765 = t763
       rotate_left
       ·
        rw [if_neg c189] at H
        have c189b0 : (t765 == t763) = false := beq_eq_false_iff_ne.mpr c189
        have c189b1 : (t765 != t763) = true := bne_iff_ne.mpr c189
        exact absurd ((Option.some.inj H).trans hrt_) (by decide)
       rw [if_pos c189] at H
       have c189b0 : (t765 == t763) = true := beq_iff_eq.mpr c189
       have c189b1 : (t765 != t763) = false := bne_eq_false_iff_eq.mpr c189
       clear c189
       obtain ⟨⟨t766, t767, t768⟩, A1900, H⟩ := oB_ H
       have A190 := Aside0.mk A1900
       clear A1900
       obtain ⟨⟨t771, t772, t773⟩, A1910, H⟩ := oB_ H
       have A191 := Aside0.mk A1910
       clear A1910
       obtain ⟨t776, A1920, H⟩ := oB_ H
       have A192 := Aside0.mk A1920
       clear A1920
       obtain ⟨⟨t779, t780, t781, t784⟩, A1930, H⟩ := oB_ H
       have A193 := Aside0.mk A1930
       clear A1930
       have HC194 := Aside0.mk H
       clear H
       have hnb195 := NB738_693.out
       have hnc195 := NB693_738.out
       have hnb196 := NB738_694.out
       have hnc196 := NB694_738.out
       have hnb197 := NB738_716.out
       have hnc197 := NB716_738.out
       have hnb198 := NB738_722.out
       have hnc198 := NB722_738.out
       have hnb199 := NB738_728.out
       have hnc199 := NB728_738.out
       have hcz200_0 : wc.cell? ⟨gb738, 0, none⟩ = some (.int .i64 t732) := bc_ BK738 0 rfl
       have hcz200_1 : wc.cell? ⟨gb738, 1, none⟩ = some (.int .i64 t733) := bc_ BK738 1 rfl
       have hcz200_2 : wc.cell? ⟨gb738, 2, none⟩ = some (.slice Ao84 t734.length co84) := bc_ BK738 2 rfl
       have hfz200_0 := blk_frozen BK738.out 0
       have hfz200_1 := blk_frozen BK738.out 1
       have hfz200_2 := blk_frozen BK738.out 2
       try go_wp2_with (first | ((with_reducible refine gate_callee (f := 27) rfl ?_); refine goesL_ (some 104) rfl rfl Try.func27 (by kernel_rfl) rfl #[.agg #[.int .i64 t732, .int .i64 t733, .slice Ao84 t734.length co84], .int .i64 1] rfl mc173 ?_; (with_reducible refine (laws_markField.calls kj123 t732 t733 (fun k_ => some k_ = (.slice Ao84 t734.length co84 : Value).ownBlock) (.slice Ao84 t734.length co84) t734 1 t763 t764 w _ ?side1 ?side2 A177.out).mono ?_); (case side1 => exact mc52); (case side2 => exact Kd.R_tight rfl HO_739002.out); rintro e w201 ⟨rfl, hy0, hb, hkp⟩; refine ⟨_, rfl, ?_⟩; replace HO_717002 := Aside0.mk (Kd.R_mono (ok' := fun k_ => some k_ ≠ (.slice Ao61 t757.length co61 : Value).ownBlock ∧ some k_ ≠ (.slice Ao71 t759.length co71 : Value).ownBlock ∧ some k_ ≠ (.slice Ao84 t734.length co84 : Value).ownBlock) (Kd.R_keptB (HO_717002.out) hkp (fun k_ hk_ hs_ => (hk_.2.2) hs_)) (fun k_ hk_ => ⟨hk_.1.1, hk_.1.2.1, hk_.1.2.2⟩)); replace HO_723002 := Aside0.mk (Kd.R_mono (ok' := fun k_ => some k_ ≠ (.slice Ao51 t712.length co51 : Value).ownBlock ∧ some k_ ≠ (.slice Ao71 t759.length co71 : Value).ownBlock ∧ some k_ ≠ (.slice Ao84 t734.length co84 : Value).ownBlock) (Kd.R_keptB (HO_723002.out) hkp (fun k_ hk_ hs_ => (hk_.2.2) hs_)) (fun k_ hk_ => ⟨hk_.1.1, hk_.1.2.1, hk_.1.2.2⟩)); replace HO_729002 := Aside0.mk (Kd.R_mono (ok' := fun k_ => some k_ ≠ (.slice Ao51 t712.length co51 : Value).ownBlock ∧ some k_ ≠ (.slice Ao61 t757.length co61 : Value).ownBlock ∧ some k_ ≠ (.slice Ao84 t734.length co84 : Value).ownBlock) (Kd.R_keptB (HO_729002.out) hkp (fun k_ hk_ hs_ => (hk_.2.2) hs_)) (fun k_ hk_ => ⟨hk_.1.1, hk_.1.2.1, hk_.1.2.2⟩)); replace BK693 := Aside0.mk (blk_kept BK693.out hkp (fun hs_ => (fun e_ => (Kd.R_ne HO_739002.out BK693.out (by decide)) e_) hs_)); replace BK694 := Aside0.mk (blk_kept BK694.out hkp (fun hs_ => (fun e_ => (Kd.R_ne HO_739002.out BK694.out (by decide)) e_) hs_)); replace BK716 := Aside0.mk (blk_kept BK716.out hkp (fun hs_ => (fun e_ => (Kd.R_ne HO_739002.out BK716.out (by decide)) e_) hs_)); replace BK722 := Aside0.mk (blk_kept BK722.out hkp (fun hs_ => (fun e_ => (Kd.R_ne HO_739002.out BK722.out (by decide)) e_) hs_)); replace BK728 := Aside0.mk (blk_kept BK728.out hkp (fun hs_ => (fun e_ => (Kd.R_ne HO_739002.out BK728.out (by decide)) e_) hs_)); replace BK738 := Aside0.mk (blk_kept BK738.out hkp (fun hs_ => (fun e_ => (Kd.R_ne HO_739002.out BK738.out (by decide)) e_) hs_)); replace HO_739002 := Aside0.mk (Kd.R_reok rfl hy0 (fun k_ e_ => HO_739002.out.1 k_ e_)); replace HB := Aside0.mk (hb); (try clear hb); (try clear hkp); (try clear hy0); have hcz202_0 : w201.cell? ⟨gb738, 0, none⟩ = some (.int .i64 t732) := bc_ BK738 0 rfl; have hcz202_1 : w201.cell? ⟨gb738, 1, none⟩ = some (.int .i64 t733) := bc_ BK738 1 rfl; have hcz202_2 : w201.cell? ⟨gb738, 2, none⟩ = some (.slice Ao84 t734.length co84) := bc_ BK738 2 rfl; have hfz202_0 := blk_frozen BK738.out 0; have hfz202_1 := blk_frozen BK738.out 1; have hfz202_2 := blk_frozen BK738.out 2) | ((with_reducible refine gate_callee (f := 29) rfl ?_); refine goesL_ (some 107) rfl rfl Try.func29 (by kernel_rfl) rfl #[.agg #[.int .i64 t732, .int .i64 t733, .slice Ao84 t764.length co84], .int .i64 1] rfl (by (try simp only [List.map_toArray, List.map_cons, List.map_nil]); first | done | (rw [show t764.length = t734.length from (Kd.R_reads' HO_739002.out).1.symm] <;> rfl) | rfl | (simp only [List.length_drop, List.length_take]; rfl)) ?_; (with_reducible refine (laws_heldField.calls kj123 t732 t733 _ _ t764 1 t765 _ ?side1 ?side2 A178.out).mono ?_); (case side1 => exact mc131); (case side2 => rw [show t764.length = t734.length from (Kd.R_reads' HO_739002.out).1.symm]; exact (Kd.R_reads' HO_739002.out).2.1); rintro e w203 ⟨rfl, hb⟩; refine ⟨_, rfl, ?_⟩; replace HO_717002 := Aside0.mk (Kd.R_below mc204 hb); replace HO_723002 := Aside0.mk (Kd.R_below mc205 hb); replace HO_729002 := Aside0.mk (Kd.R_below mc206 hb); replace HO_739002 := Aside0.mk (Kd.R_below mc207 hb); replace BK693 := Aside0.mk (blk_below BK693.out hb); replace BK694 := Aside0.mk (blk_below BK694.out hb); replace BK716 := Aside0.mk (blk_below BK716.out hb); replace BK722 := Aside0.mk (blk_below BK722.out hb); replace BK728 := Aside0.mk (blk_below BK728.out hb); replace BK738 := Aside0.mk (blk_below BK738.out hb); replace HB := Aside0.mk (below_step mc52 hb); (try clear hb); (try clear hk)))
       replace HO_717002 := Aside0.mk (Kd.R_drew HO_717002.out)
       replace HO_723002 := Aside0.mk (Kd.R_drew HO_723002.out)
       replace HO_729002 := Aside0.mk (Kd.R_drew HO_729002.out)
       replace HO_739002 := Aside0.mk (Kd.R_drew HO_739002.out)
       replace BK693 := Aside0.mk (blk_drew BK693.out)
       replace BK694 := Aside0.mk (blk_drew BK694.out)
       replace BK716 := Aside0.mk (blk_drew BK716.out)
       replace BK722 := Aside0.mk (blk_drew BK722.out)
       replace BK728 := Aside0.mk (blk_drew BK728.out)
       replace BK738 := Aside0.mk (blk_drew BK738.out)
       replace HB := Aside0.mk (below_drew1 HB.out)
       refine start_ (n := 13) (S := fun w' => w'.cell? ⟨gb693, 0, none⟩ = some (.int .i64 a0_0) ∧ w'.cell? ⟨gb693, 1, none⟩ = some (.int .i64 a0_1) ∧ w'.cell? ⟨gb693, 2, none⟩ = some (.slice A0_2 l0_2.length c0_2) ∧ w'.cell? ⟨gb694, 0, none⟩ = some (.int .i64 a1_0) ∧ w'.cell? ⟨gb694, 1, none⟩ = some (.int .i64 a1_1) ∧ w'.cell? ⟨gb694, 2, none⟩ = some (.slice A1_2 l1_2.length c1_2)) (ds := []) #[false, false, false, false, false, false, false, false, false, false, false, false, false] (by kernel_rfl) rfl rfl ⟨bc_ BK693 0 rfl, bc_ BK693 1 rfl, bc_ BK693 2 rfl, bc_ BK694 0 rfl, bc_ BK694 1 rfl, bc_ BK694 2 rfl⟩ (fun hHeld => ?_); refine with_tabW laws_FnExactCopyRegion.tab37 laws_FnExactCopyRegion.bits37 (fun HT_ HW_ => ?_)
       generalize w203.drew = w204 at HO_717002 HO_723002 HO_729002 HO_739002 BK693 BK694 BK716 BK722 BK728 BK738 HB hHeld ⊢
       refine pure_ (i := 4) (N := some 118) #[false, false, false, false, true, false, false, false, false, false, false, false, false] rfl rfl (any_of HT_.out (by kernel_rfl)) (fun _ _ _ h => h) (Or.inl ⟨by rfl, mc243⟩) mc208 ?_
       refine take_ (i := 0) (N := some 114) #[true, false, false, false, true, false, false, false, false, false, false, false, false] rfl rfl (take_ofW HT_.out HW_.out (by kernel_rfl)) (fun _ _ _ h => h) (Or.inl ⟨by rfl, mc227⟩) hHeld mc208 ?_
       refine take_ (i := 2) (N := some 116) #[true, false, true, false, true, false, false, false, false, false, false, false, false] rfl rfl (take_ofW HT_.out HW_.out (by kernel_rfl)) (fun _ _ _ h => h) (Or.inl ⟨by rfl, mc227⟩) hHeld mc208 ?_
       refine join_ (σ := Value × Value × Value × Value × Nat) 2 #[true, true, true, true, true, true, true, true, true, true, true, false, false] (fun s_ => [(115, .agg #[.int .i64 t766, .int .i64 t767, s_.1]), (117, .agg #[.int .i64 t771, .int .i64 t772, s_.2.1]), (119, s_.2.2.1), (120, .tuple #[.agg #[.int .i64 t779, .int .i64 t780, s_.2.2.2.1], .bool t784]), (18, .pointer (some ⟨s_.2.2.2.2, 0, none⟩)), (113, .tuple #[.agg #[.int .i64 t779, .int .i64 t780, s_.2.2.2.1], .bool t784]), (121, .agg #[.int .i64 t779, .int .i64 t780, s_.2.2.2.1]), (122, .bool t784)]) (fun s_ w' => (w'.cell? ⟨gb693, 0, none⟩ = some (.int .i64 a0_0) ∧ w'.cell? ⟨gb693, 1, none⟩ = some (.int .i64 a0_1) ∧ w'.cell? ⟨gb693, 2, none⟩ = some (.slice A0_2 l0_2.length c0_2) ∧ w'.cell? ⟨gb694, 0, none⟩ = some (.int .i64 a1_0) ∧ w'.cell? ⟨gb694, 1, none⟩ = some (.int .i64 a1_1) ∧ w'.cell? ⟨gb694, 2, none⟩ = some (.slice A1_2 l1_2.length c1_2)) ∧ (Kd.R (Kd.int .i64) 3 w' w.heap.size (fun k_ => some k_ ≠ (s_.2.1 : Value).ownBlock ∧ some k_ ≠ (s_.2.2.1 : Value).ownBlock ∧ some k_ ≠ (s_.2.2.2.1 : Value).ownBlock ∧ some k_ ≠ (.slice Ao51 t712.length co51 : Value).ownBlock ∧ some k_ ≠ (.slice Ao61 t757.length co61 : Value).ownBlock ∧ some k_ ≠ (.slice Ao71 t759.length co71 : Value).ownBlock ∧ some k_ ≠ (.slice Ao84 t734.length co84 : Value).ownBlock) s_.1 t768) ∧ (Kd.R (Kd.int .i64) 3 w' w.heap.size (fun k_ => some k_ ≠ (s_.1 : Value).ownBlock ∧ some k_ ≠ (s_.2.2.1 : Value).ownBlock ∧ some k_ ≠ (s_.2.2.2.1 : Value).ownBlock ∧ some k_ ≠ (.slice Ao51 t712.length co51 : Value).ownBlock ∧ some k_ ≠ (.slice Ao61 t757.length co61 : Value).ownBlock ∧ some k_ ≠ (.slice Ao71 t759.length co71 : Value).ownBlock ∧ some k_ ≠ (.slice Ao84 t734.length co84 : Value).ownBlock) s_.2.1 t773) ∧ (Kd.R (Kd.int .i64) 3 w' w.heap.size (fun k_ => some k_ ≠ (s_.1 : Value).ownBlock ∧ some k_ ≠ (s_.2.1 : Value).ownBlock ∧ some k_ ≠ (s_.2.2.2.1 : Value).ownBlock ∧ some k_ ≠ (.slice Ao51 t712.length co51 : Value).ownBlock ∧ some k_ ≠ (.slice Ao61 t757.length co61 : Value).ownBlock ∧ some k_ ≠ (.slice Ao71 t759.length co71 : Value).ownBlock ∧ some k_ ≠ (.slice Ao84 t734.length co84 : Value).ownBlock) s_.2.2.1 t776) ∧ (Kd.R (Kd.int .i64) 3 w' w.heap.size (fun k_ => some k_ ≠ (s_.1 : Value).ownBlock ∧ some k_ ≠ (s_.2.1 : Value).ownBlock ∧ some k_ ≠ (s_.2.2.1 : Value).ownBlock ∧ some k_ ≠ (.slice Ao51 t712.length co51 : Value).ownBlock ∧ some k_ ≠ (.slice Ao61 t757.length co61 : Value).ownBlock ∧ some k_ ≠ (.slice Ao71 t759.length co71 : Value).ownBlock ∧ some k_ ≠ (.slice Ao84 t734.length co84 : Value).ownBlock) s_.2.2.2.1 t781) ∧ (Kd.R (Kd.int .i64) 3 w' w.heap.size (fun k_ => some k_ ≠ (s_.1 : Value).ownBlock ∧ some k_ ≠ (s_.2.1 : Value).ownBlock ∧ some k_ ≠ (s_.2.2.1 : Value).ownBlock ∧ some k_ ≠ (s_.2.2.2.1 : Value).ownBlock ∧ some k_ ≠ (.slice Ao61 t757.length co61 : Value).ownBlock ∧ some k_ ≠ (.slice Ao71 t759.length co71 : Value).ownBlock ∧ some k_ ≠ (.slice Ao84 t734.length co84 : Value).ownBlock) (.slice Ao51 t712.length co51) t712) ∧ (Kd.R (Kd.int .i64) 3 w' w.heap.size (fun k_ => some k_ ≠ (s_.1 : Value).ownBlock ∧ some k_ ≠ (s_.2.1 : Value).ownBlock ∧ some k_ ≠ (s_.2.2.1 : Value).ownBlock ∧ some k_ ≠ (s_.2.2.2.1 : Value).ownBlock ∧ some k_ ≠ (.slice Ao51 t712.length co51 : Value).ownBlock ∧ some k_ ≠ (.slice Ao71 t759.length co71 : Value).ownBlock ∧ some k_ ≠ (.slice Ao84 t734.length co84 : Value).ownBlock) (.slice Ao61 t757.length co61) t757) ∧ (Kd.R (Kd.int .i64) 3 w' w.heap.size (fun k_ => some k_ ≠ (s_.1 : Value).ownBlock ∧ some k_ ≠ (s_.2.1 : Value).ownBlock ∧ some k_ ≠ (s_.2.2.1 : Value).ownBlock ∧ some k_ ≠ (s_.2.2.2.1 : Value).ownBlock ∧ some k_ ≠ (.slice Ao51 t712.length co51 : Value).ownBlock ∧ some k_ ≠ (.slice Ao61 t757.length co61 : Value).ownBlock ∧ some k_ ≠ (.slice Ao84 t734.length co84 : Value).ownBlock) (.slice Ao71 t759.length co71) t759) ∧ (Kd.R (Kd.int .i64) 3 w' w.heap.size (fun k_ => some k_ ≠ (s_.1 : Value).ownBlock ∧ some k_ ≠ (s_.2.1 : Value).ownBlock ∧ some k_ ≠ (s_.2.2.1 : Value).ownBlock ∧ some k_ ≠ (s_.2.2.2.1 : Value).ownBlock ∧ some k_ ≠ (.slice Ao51 t712.length co51 : Value).ownBlock ∧ some k_ ≠ (.slice Ao61 t757.length co61 : Value).ownBlock ∧ some k_ ≠ (.slice Ao71 t759.length co71 : Value).ownBlock) (.slice Ao84 t734.length co84) t764) ∧ (w'.heap[gb693]? = some (.cells #[.int .i64 a0_0, .int .i64 a0_1, .slice A0_2 l0_2.length c0_2] 36 (0, 0))) ∧ (w'.heap[gb694]? = some (.cells #[.int .i64 a1_0, .int .i64 a1_1, .slice A1_2 l1_2.length c1_2] 36 (0, 0))) ∧ (w'.heap[gb716]? = some (.cells #[.int .i64 t710, .int .i64 t711, .slice Ao51 t712.length co51] 26 (0, 0))) ∧ (w'.heap[gb722]? = some (.cells #[.int .i64 t717, .int .i64 t718, .slice Ao61 t757.length co61] 26 (0, 0))) ∧ (w'.heap[gb728]? = some (.cells #[.int .i64 t723, .int .i64 t724, .slice Ao71 t759.length co71] 26 (0, 0))) ∧ (w'.heap[gb738]? = some (.cells #[.int .i64 t732, .int .i64 t733, .slice Ao84 t734.length co84] 26 (0, 0))) ∧ (w'.heap[s_.2.2.2.2]? = some (.cells #[.int .i64 0, .int .i64 0, .slice none 0 0] 26 (0, 0))) ∧ (w.heap.size ≤ s_.2.2.2.2) ∧ (w.heap.size ≤ s_.2.2.2.2) ∧ (gb693 ≠ s_.2.2.2.2) ∧ (s_.2.2.2.2 ≠ gb693) ∧ (gb694 ≠ s_.2.2.2.2) ∧ (s_.2.2.2.2 ≠ gb694) ∧ (gb716 ≠ s_.2.2.2.2) ∧ (s_.2.2.2.2 ≠ gb716) ∧ (gb722 ≠ s_.2.2.2.2) ∧ (s_.2.2.2.2 ≠ gb722) ∧ (gb728 ≠ s_.2.2.2.2) ∧ (s_.2.2.2.2 ≠ gb728) ∧ (gb738 ≠ s_.2.2.2.2) ∧ (s_.2.2.2.2 ≠ gb738) ∧ (Below w.heap.size w w')) ?_ ?_
       rotate_left
       ·
        intro hJ1_3_5_6_10
        refine join_ (σ := Value × Value × Value × Value) 3 #[true, true, true, true, true, true, true, true, true, true, false, false, false] (fun s_ => [(115, .agg #[.int .i64 t766, .int .i64 t767, s_.1]), (117, .agg #[.int .i64 t771, .int .i64 t772, s_.2.1]), (119, s_.2.2.1), (120, .tuple #[.agg #[.int .i64 t779, .int .i64 t780, s_.2.2.2], .bool t784]), (113, .tuple #[.agg #[.int .i64 t779, .int .i64 t780, s_.2.2.2], .bool t784]), (121, .agg #[.int .i64 t779, .int .i64 t780, s_.2.2.2]), (122, .bool t784)]) (fun s_ w' => (w'.cell? ⟨gb693, 0, none⟩ = some (.int .i64 a0_0) ∧ w'.cell? ⟨gb693, 1, none⟩ = some (.int .i64 a0_1) ∧ w'.cell? ⟨gb693, 2, none⟩ = some (.slice A0_2 l0_2.length c0_2) ∧ w'.cell? ⟨gb694, 0, none⟩ = some (.int .i64 a1_0) ∧ w'.cell? ⟨gb694, 1, none⟩ = some (.int .i64 a1_1) ∧ w'.cell? ⟨gb694, 2, none⟩ = some (.slice A1_2 l1_2.length c1_2)) ∧ (Kd.R (Kd.int .i64) 3 w' w.heap.size (fun k_ => some k_ ≠ (s_.2.1 : Value).ownBlock ∧ some k_ ≠ (s_.2.2.1 : Value).ownBlock ∧ some k_ ≠ (s_.2.2.2 : Value).ownBlock ∧ some k_ ≠ (.slice Ao51 t712.length co51 : Value).ownBlock ∧ some k_ ≠ (.slice Ao61 t757.length co61 : Value).ownBlock ∧ some k_ ≠ (.slice Ao71 t759.length co71 : Value).ownBlock ∧ some k_ ≠ (.slice Ao84 t734.length co84 : Value).ownBlock) s_.1 t768) ∧ (Kd.R (Kd.int .i64) 3 w' w.heap.size (fun k_ => some k_ ≠ (s_.1 : Value).ownBlock ∧ some k_ ≠ (s_.2.2.1 : Value).ownBlock ∧ some k_ ≠ (s_.2.2.2 : Value).ownBlock ∧ some k_ ≠ (.slice Ao51 t712.length co51 : Value).ownBlock ∧ some k_ ≠ (.slice Ao61 t757.length co61 : Value).ownBlock ∧ some k_ ≠ (.slice Ao71 t759.length co71 : Value).ownBlock ∧ some k_ ≠ (.slice Ao84 t734.length co84 : Value).ownBlock) s_.2.1 t773) ∧ (Kd.R (Kd.int .i64) 3 w' w.heap.size (fun k_ => some k_ ≠ (s_.1 : Value).ownBlock ∧ some k_ ≠ (s_.2.1 : Value).ownBlock ∧ some k_ ≠ (s_.2.2.2 : Value).ownBlock ∧ some k_ ≠ (.slice Ao51 t712.length co51 : Value).ownBlock ∧ some k_ ≠ (.slice Ao61 t757.length co61 : Value).ownBlock ∧ some k_ ≠ (.slice Ao71 t759.length co71 : Value).ownBlock ∧ some k_ ≠ (.slice Ao84 t734.length co84 : Value).ownBlock) s_.2.2.1 t776) ∧ (Kd.R (Kd.int .i64) 3 w' w.heap.size (fun k_ => some k_ ≠ (s_.1 : Value).ownBlock ∧ some k_ ≠ (s_.2.1 : Value).ownBlock ∧ some k_ ≠ (s_.2.2.1 : Value).ownBlock ∧ some k_ ≠ (.slice Ao51 t712.length co51 : Value).ownBlock ∧ some k_ ≠ (.slice Ao61 t757.length co61 : Value).ownBlock ∧ some k_ ≠ (.slice Ao71 t759.length co71 : Value).ownBlock ∧ some k_ ≠ (.slice Ao84 t734.length co84 : Value).ownBlock) s_.2.2.2 t781) ∧ (Kd.R (Kd.int .i64) 3 w' w.heap.size (fun k_ => some k_ ≠ (s_.1 : Value).ownBlock ∧ some k_ ≠ (s_.2.1 : Value).ownBlock ∧ some k_ ≠ (s_.2.2.1 : Value).ownBlock ∧ some k_ ≠ (s_.2.2.2 : Value).ownBlock ∧ some k_ ≠ (.slice Ao61 t757.length co61 : Value).ownBlock ∧ some k_ ≠ (.slice Ao71 t759.length co71 : Value).ownBlock ∧ some k_ ≠ (.slice Ao84 t734.length co84 : Value).ownBlock) (.slice Ao51 t712.length co51) t712) ∧ (Kd.R (Kd.int .i64) 3 w' w.heap.size (fun k_ => some k_ ≠ (s_.1 : Value).ownBlock ∧ some k_ ≠ (s_.2.1 : Value).ownBlock ∧ some k_ ≠ (s_.2.2.1 : Value).ownBlock ∧ some k_ ≠ (s_.2.2.2 : Value).ownBlock ∧ some k_ ≠ (.slice Ao51 t712.length co51 : Value).ownBlock ∧ some k_ ≠ (.slice Ao71 t759.length co71 : Value).ownBlock ∧ some k_ ≠ (.slice Ao84 t734.length co84 : Value).ownBlock) (.slice Ao61 t757.length co61) t757) ∧ (Kd.R (Kd.int .i64) 3 w' w.heap.size (fun k_ => some k_ ≠ (s_.1 : Value).ownBlock ∧ some k_ ≠ (s_.2.1 : Value).ownBlock ∧ some k_ ≠ (s_.2.2.1 : Value).ownBlock ∧ some k_ ≠ (s_.2.2.2 : Value).ownBlock ∧ some k_ ≠ (.slice Ao51 t712.length co51 : Value).ownBlock ∧ some k_ ≠ (.slice Ao61 t757.length co61 : Value).ownBlock ∧ some k_ ≠ (.slice Ao84 t734.length co84 : Value).ownBlock) (.slice Ao71 t759.length co71) t759) ∧ (Kd.R (Kd.int .i64) 3 w' w.heap.size (fun k_ => some k_ ≠ (s_.1 : Value).ownBlock ∧ some k_ ≠ (s_.2.1 : Value).ownBlock ∧ some k_ ≠ (s_.2.2.1 : Value).ownBlock ∧ some k_ ≠ (s_.2.2.2 : Value).ownBlock ∧ some k_ ≠ (.slice Ao51 t712.length co51 : Value).ownBlock ∧ some k_ ≠ (.slice Ao61 t757.length co61 : Value).ownBlock ∧ some k_ ≠ (.slice Ao71 t759.length co71 : Value).ownBlock) (.slice Ao84 t734.length co84) t764) ∧ (w'.heap[gb693]? = some (.cells #[.int .i64 a0_0, .int .i64 a0_1, .slice A0_2 l0_2.length c0_2] 36 (0, 0))) ∧ (w'.heap[gb694]? = some (.cells #[.int .i64 a1_0, .int .i64 a1_1, .slice A1_2 l1_2.length c1_2] 36 (0, 0))) ∧ (w'.heap[gb716]? = some (.cells #[.int .i64 t710, .int .i64 t711, .slice Ao51 t712.length co51] 26 (0, 0))) ∧ (w'.heap[gb722]? = some (.cells #[.int .i64 t717, .int .i64 t718, .slice Ao61 t757.length co61] 26 (0, 0))) ∧ (w'.heap[gb728]? = some (.cells #[.int .i64 t723, .int .i64 t724, .slice Ao71 t759.length co71] 26 (0, 0))) ∧ (w'.heap[gb738]? = some (.cells #[.int .i64 t732, .int .i64 t733, .slice Ao84 t734.length co84] 26 (0, 0))) ∧ (Below w.heap.size w w')) ?_ ?_
        rotate_left
        ·
         intro hJ1_3_5_6
         refine join_ (σ := Value × Value × Value × Nat) 6 #[true, true, true, true, true, true, false, false, false, false, true, false, false] (fun s_ => [(115, .agg #[.int .i64 t766, .int .i64 t767, s_.1]), (117, .agg #[.int .i64 t771, .int .i64 t772, s_.2.1]), (119, s_.2.2.1), (18, .pointer (some ⟨s_.2.2.2, 0, none⟩))]) (fun s_ w' => (w'.cell? ⟨gb693, 0, none⟩ = some (.int .i64 a0_0) ∧ w'.cell? ⟨gb693, 1, none⟩ = some (.int .i64 a0_1) ∧ w'.cell? ⟨gb693, 2, none⟩ = some (.slice A0_2 l0_2.length c0_2) ∧ w'.cell? ⟨gb694, 0, none⟩ = some (.int .i64 a1_0) ∧ w'.cell? ⟨gb694, 1, none⟩ = some (.int .i64 a1_1) ∧ w'.cell? ⟨gb694, 2, none⟩ = some (.slice A1_2 l1_2.length c1_2)) ∧ (Kd.R (Kd.int .i64) 3 w' w.heap.size (fun k_ => some k_ ≠ (s_.2.1 : Value).ownBlock ∧ some k_ ≠ (s_.2.2.1 : Value).ownBlock ∧ some k_ ≠ (.slice Ao51 t712.length co51 : Value).ownBlock ∧ some k_ ≠ (.slice Ao61 t757.length co61 : Value).ownBlock ∧ some k_ ≠ (.slice Ao71 t759.length co71 : Value).ownBlock ∧ some k_ ≠ (.slice Ao84 t734.length co84 : Value).ownBlock) s_.1 t768) ∧ (Kd.R (Kd.int .i64) 3 w' w.heap.size (fun k_ => some k_ ≠ (s_.1 : Value).ownBlock ∧ some k_ ≠ (s_.2.2.1 : Value).ownBlock ∧ some k_ ≠ (.slice Ao51 t712.length co51 : Value).ownBlock ∧ some k_ ≠ (.slice Ao61 t757.length co61 : Value).ownBlock ∧ some k_ ≠ (.slice Ao71 t759.length co71 : Value).ownBlock ∧ some k_ ≠ (.slice Ao84 t734.length co84 : Value).ownBlock) s_.2.1 t773) ∧ (Kd.R (Kd.int .i64) 3 w' w.heap.size (fun k_ => some k_ ≠ (s_.1 : Value).ownBlock ∧ some k_ ≠ (s_.2.1 : Value).ownBlock ∧ some k_ ≠ (.slice Ao51 t712.length co51 : Value).ownBlock ∧ some k_ ≠ (.slice Ao61 t757.length co61 : Value).ownBlock ∧ some k_ ≠ (.slice Ao71 t759.length co71 : Value).ownBlock ∧ some k_ ≠ (.slice Ao84 t734.length co84 : Value).ownBlock) s_.2.2.1 t776) ∧ (Kd.R (Kd.int .i64) 3 w' w.heap.size (fun k_ => some k_ ≠ (s_.1 : Value).ownBlock ∧ some k_ ≠ (s_.2.1 : Value).ownBlock ∧ some k_ ≠ (s_.2.2.1 : Value).ownBlock ∧ some k_ ≠ (.slice Ao61 t757.length co61 : Value).ownBlock ∧ some k_ ≠ (.slice Ao71 t759.length co71 : Value).ownBlock ∧ some k_ ≠ (.slice Ao84 t734.length co84 : Value).ownBlock) (.slice Ao51 t712.length co51) t712) ∧ (Kd.R (Kd.int .i64) 3 w' w.heap.size (fun k_ => some k_ ≠ (s_.1 : Value).ownBlock ∧ some k_ ≠ (s_.2.1 : Value).ownBlock ∧ some k_ ≠ (s_.2.2.1 : Value).ownBlock ∧ some k_ ≠ (.slice Ao51 t712.length co51 : Value).ownBlock ∧ some k_ ≠ (.slice Ao71 t759.length co71 : Value).ownBlock ∧ some k_ ≠ (.slice Ao84 t734.length co84 : Value).ownBlock) (.slice Ao61 t757.length co61) t757) ∧ (Kd.R (Kd.int .i64) 3 w' w.heap.size (fun k_ => some k_ ≠ (s_.1 : Value).ownBlock ∧ some k_ ≠ (s_.2.1 : Value).ownBlock ∧ some k_ ≠ (s_.2.2.1 : Value).ownBlock ∧ some k_ ≠ (.slice Ao51 t712.length co51 : Value).ownBlock ∧ some k_ ≠ (.slice Ao61 t757.length co61 : Value).ownBlock ∧ some k_ ≠ (.slice Ao84 t734.length co84 : Value).ownBlock) (.slice Ao71 t759.length co71) t759) ∧ (Kd.R (Kd.int .i64) 3 w' w.heap.size (fun k_ => some k_ ≠ (s_.1 : Value).ownBlock ∧ some k_ ≠ (s_.2.1 : Value).ownBlock ∧ some k_ ≠ (s_.2.2.1 : Value).ownBlock ∧ some k_ ≠ (.slice Ao51 t712.length co51 : Value).ownBlock ∧ some k_ ≠ (.slice Ao61 t757.length co61 : Value).ownBlock ∧ some k_ ≠ (.slice Ao71 t759.length co71 : Value).ownBlock) (.slice Ao84 t734.length co84) t764) ∧ (w'.heap[gb693]? = some (.cells #[.int .i64 a0_0, .int .i64 a0_1, .slice A0_2 l0_2.length c0_2] 36 (0, 0))) ∧ (w'.heap[gb694]? = some (.cells #[.int .i64 a1_0, .int .i64 a1_1, .slice A1_2 l1_2.length c1_2] 36 (0, 0))) ∧ (w'.heap[gb716]? = some (.cells #[.int .i64 t710, .int .i64 t711, .slice Ao51 t712.length co51] 26 (0, 0))) ∧ (w'.heap[gb722]? = some (.cells #[.int .i64 t717, .int .i64 t718, .slice Ao61 t757.length co61] 26 (0, 0))) ∧ (w'.heap[gb728]? = some (.cells #[.int .i64 t723, .int .i64 t724, .slice Ao71 t759.length co71] 26 (0, 0))) ∧ (w'.heap[gb738]? = some (.cells #[.int .i64 t732, .int .i64 t733, .slice Ao84 t734.length co84] 26 (0, 0))) ∧ (w'.heap[s_.2.2.2]? = some (.cells #[.int .i64 0, .int .i64 0, .slice none 0 0] 26 (0, 0))) ∧ (w.heap.size ≤ s_.2.2.2) ∧ (w.heap.size ≤ s_.2.2.2) ∧ (gb693 ≠ s_.2.2.2) ∧ (s_.2.2.2 ≠ gb693) ∧ (gb694 ≠ s_.2.2.2) ∧ (s_.2.2.2 ≠ gb694) ∧ (gb716 ≠ s_.2.2.2) ∧ (s_.2.2.2 ≠ gb716) ∧ (gb722 ≠ s_.2.2.2) ∧ (s_.2.2.2 ≠ gb722) ∧ (gb728 ≠ s_.2.2.2) ∧ (s_.2.2.2 ≠ gb728) ∧ (gb738 ≠ s_.2.2.2) ∧ (s_.2.2.2 ≠ gb738) ∧ (Below w.heap.size w w')) ?_ ?_
         rotate_left
         ·
          intro hJ1_3_5_10
          refine join_ (σ := Value × Value × Value) 7 #[true, true, true, true, true, true, false, false, false, false, false, false, false] (fun s_ => [(115, .agg #[.int .i64 t766, .int .i64 t767, s_.1]), (117, .agg #[.int .i64 t771, .int .i64 t772, s_.2.1]), (119, s_.2.2)]) (fun s_ w' => (w'.cell? ⟨gb693, 0, none⟩ = some (.int .i64 a0_0) ∧ w'.cell? ⟨gb693, 1, none⟩ = some (.int .i64 a0_1) ∧ w'.cell? ⟨gb693, 2, none⟩ = some (.slice A0_2 l0_2.length c0_2) ∧ w'.cell? ⟨gb694, 0, none⟩ = some (.int .i64 a1_0) ∧ w'.cell? ⟨gb694, 1, none⟩ = some (.int .i64 a1_1) ∧ w'.cell? ⟨gb694, 2, none⟩ = some (.slice A1_2 l1_2.length c1_2)) ∧ (Kd.R (Kd.int .i64) 3 w' w.heap.size (fun k_ => some k_ ≠ (s_.2.1 : Value).ownBlock ∧ some k_ ≠ (s_.2.2 : Value).ownBlock ∧ some k_ ≠ (.slice Ao51 t712.length co51 : Value).ownBlock ∧ some k_ ≠ (.slice Ao61 t757.length co61 : Value).ownBlock ∧ some k_ ≠ (.slice Ao71 t759.length co71 : Value).ownBlock ∧ some k_ ≠ (.slice Ao84 t734.length co84 : Value).ownBlock) s_.1 t768) ∧ (Kd.R (Kd.int .i64) 3 w' w.heap.size (fun k_ => some k_ ≠ (s_.1 : Value).ownBlock ∧ some k_ ≠ (s_.2.2 : Value).ownBlock ∧ some k_ ≠ (.slice Ao51 t712.length co51 : Value).ownBlock ∧ some k_ ≠ (.slice Ao61 t757.length co61 : Value).ownBlock ∧ some k_ ≠ (.slice Ao71 t759.length co71 : Value).ownBlock ∧ some k_ ≠ (.slice Ao84 t734.length co84 : Value).ownBlock) s_.2.1 t773) ∧ (Kd.R (Kd.int .i64) 3 w' w.heap.size (fun k_ => some k_ ≠ (s_.1 : Value).ownBlock ∧ some k_ ≠ (s_.2.1 : Value).ownBlock ∧ some k_ ≠ (.slice Ao51 t712.length co51 : Value).ownBlock ∧ some k_ ≠ (.slice Ao61 t757.length co61 : Value).ownBlock ∧ some k_ ≠ (.slice Ao71 t759.length co71 : Value).ownBlock ∧ some k_ ≠ (.slice Ao84 t734.length co84 : Value).ownBlock) s_.2.2 t776) ∧ (Kd.R (Kd.int .i64) 3 w' w.heap.size (fun k_ => some k_ ≠ (s_.1 : Value).ownBlock ∧ some k_ ≠ (s_.2.1 : Value).ownBlock ∧ some k_ ≠ (s_.2.2 : Value).ownBlock ∧ some k_ ≠ (.slice Ao61 t757.length co61 : Value).ownBlock ∧ some k_ ≠ (.slice Ao71 t759.length co71 : Value).ownBlock ∧ some k_ ≠ (.slice Ao84 t734.length co84 : Value).ownBlock) (.slice Ao51 t712.length co51) t712) ∧ (Kd.R (Kd.int .i64) 3 w' w.heap.size (fun k_ => some k_ ≠ (s_.1 : Value).ownBlock ∧ some k_ ≠ (s_.2.1 : Value).ownBlock ∧ some k_ ≠ (s_.2.2 : Value).ownBlock ∧ some k_ ≠ (.slice Ao51 t712.length co51 : Value).ownBlock ∧ some k_ ≠ (.slice Ao71 t759.length co71 : Value).ownBlock ∧ some k_ ≠ (.slice Ao84 t734.length co84 : Value).ownBlock) (.slice Ao61 t757.length co61) t757) ∧ (Kd.R (Kd.int .i64) 3 w' w.heap.size (fun k_ => some k_ ≠ (s_.1 : Value).ownBlock ∧ some k_ ≠ (s_.2.1 : Value).ownBlock ∧ some k_ ≠ (s_.2.2 : Value).ownBlock ∧ some k_ ≠ (.slice Ao51 t712.length co51 : Value).ownBlock ∧ some k_ ≠ (.slice Ao61 t757.length co61 : Value).ownBlock ∧ some k_ ≠ (.slice Ao84 t734.length co84 : Value).ownBlock) (.slice Ao71 t759.length co71) t759) ∧ (Kd.R (Kd.int .i64) 3 w' w.heap.size (fun k_ => some k_ ≠ (s_.1 : Value).ownBlock ∧ some k_ ≠ (s_.2.1 : Value).ownBlock ∧ some k_ ≠ (s_.2.2 : Value).ownBlock ∧ some k_ ≠ (.slice Ao51 t712.length co51 : Value).ownBlock ∧ some k_ ≠ (.slice Ao61 t757.length co61 : Value).ownBlock ∧ some k_ ≠ (.slice Ao71 t759.length co71 : Value).ownBlock) (.slice Ao84 t734.length co84) t764) ∧ (w'.heap[gb693]? = some (.cells #[.int .i64 a0_0, .int .i64 a0_1, .slice A0_2 l0_2.length c0_2] 36 (0, 0))) ∧ (w'.heap[gb694]? = some (.cells #[.int .i64 a1_0, .int .i64 a1_1, .slice A1_2 l1_2.length c1_2] 36 (0, 0))) ∧ (w'.heap[gb716]? = some (.cells #[.int .i64 t710, .int .i64 t711, .slice Ao51 t712.length co51] 26 (0, 0))) ∧ (w'.heap[gb722]? = some (.cells #[.int .i64 t717, .int .i64 t718, .slice Ao61 t757.length co61] 26 (0, 0))) ∧ (w'.heap[gb728]? = some (.cells #[.int .i64 t723, .int .i64 t724, .slice Ao71 t759.length co71] 26 (0, 0))) ∧ (w'.heap[gb738]? = some (.cells #[.int .i64 t732, .int .i64 t733, .slice Ao84 t734.length co84] 26 (0, 0))) ∧ (Below w.heap.size w w')) ?_ ?_
          rotate_left
          ·
           intro hJ1_3_5
           refine join_ (σ := Value × Value × Nat) 7 #[true, true, true, true, true, false, false, false, false, false, true, false, false] (fun s_ => [(115, .agg #[.int .i64 t766, .int .i64 t767, s_.1]), (117, .agg #[.int .i64 t771, .int .i64 t772, s_.2.1]), (18, .pointer (some ⟨s_.2.2, 0, none⟩))]) (fun s_ w' => (w'.cell? ⟨gb693, 0, none⟩ = some (.int .i64 a0_0) ∧ w'.cell? ⟨gb693, 1, none⟩ = some (.int .i64 a0_1) ∧ w'.cell? ⟨gb693, 2, none⟩ = some (.slice A0_2 l0_2.length c0_2) ∧ w'.cell? ⟨gb694, 0, none⟩ = some (.int .i64 a1_0) ∧ w'.cell? ⟨gb694, 1, none⟩ = some (.int .i64 a1_1) ∧ w'.cell? ⟨gb694, 2, none⟩ = some (.slice A1_2 l1_2.length c1_2)) ∧ (Kd.R (Kd.int .i64) 3 w' w.heap.size (fun k_ => some k_ ≠ (s_.2.1 : Value).ownBlock ∧ some k_ ≠ (.slice Ao51 t712.length co51 : Value).ownBlock ∧ some k_ ≠ (.slice Ao61 t757.length co61 : Value).ownBlock ∧ some k_ ≠ (.slice Ao71 t759.length co71 : Value).ownBlock ∧ some k_ ≠ (.slice Ao84 t734.length co84 : Value).ownBlock) s_.1 t768) ∧ (Kd.R (Kd.int .i64) 3 w' w.heap.size (fun k_ => some k_ ≠ (s_.1 : Value).ownBlock ∧ some k_ ≠ (.slice Ao51 t712.length co51 : Value).ownBlock ∧ some k_ ≠ (.slice Ao61 t757.length co61 : Value).ownBlock ∧ some k_ ≠ (.slice Ao71 t759.length co71 : Value).ownBlock ∧ some k_ ≠ (.slice Ao84 t734.length co84 : Value).ownBlock) s_.2.1 t773) ∧ (Kd.R (Kd.int .i64) 3 w' w.heap.size (fun k_ => some k_ ≠ (s_.1 : Value).ownBlock ∧ some k_ ≠ (s_.2.1 : Value).ownBlock ∧ some k_ ≠ (.slice Ao61 t757.length co61 : Value).ownBlock ∧ some k_ ≠ (.slice Ao71 t759.length co71 : Value).ownBlock ∧ some k_ ≠ (.slice Ao84 t734.length co84 : Value).ownBlock) (.slice Ao51 t712.length co51) t712) ∧ (Kd.R (Kd.int .i64) 3 w' w.heap.size (fun k_ => some k_ ≠ (s_.1 : Value).ownBlock ∧ some k_ ≠ (s_.2.1 : Value).ownBlock ∧ some k_ ≠ (.slice Ao51 t712.length co51 : Value).ownBlock ∧ some k_ ≠ (.slice Ao71 t759.length co71 : Value).ownBlock ∧ some k_ ≠ (.slice Ao84 t734.length co84 : Value).ownBlock) (.slice Ao61 t757.length co61) t757) ∧ (Kd.R (Kd.int .i64) 3 w' w.heap.size (fun k_ => some k_ ≠ (s_.1 : Value).ownBlock ∧ some k_ ≠ (s_.2.1 : Value).ownBlock ∧ some k_ ≠ (.slice Ao51 t712.length co51 : Value).ownBlock ∧ some k_ ≠ (.slice Ao61 t757.length co61 : Value).ownBlock ∧ some k_ ≠ (.slice Ao84 t734.length co84 : Value).ownBlock) (.slice Ao71 t759.length co71) t759) ∧ (Kd.R (Kd.int .i64) 3 w' w.heap.size (fun k_ => some k_ ≠ (s_.1 : Value).ownBlock ∧ some k_ ≠ (s_.2.1 : Value).ownBlock ∧ some k_ ≠ (.slice Ao51 t712.length co51 : Value).ownBlock ∧ some k_ ≠ (.slice Ao61 t757.length co61 : Value).ownBlock ∧ some k_ ≠ (.slice Ao71 t759.length co71 : Value).ownBlock) (.slice Ao84 t734.length co84) t764) ∧ (w'.heap[gb693]? = some (.cells #[.int .i64 a0_0, .int .i64 a0_1, .slice A0_2 l0_2.length c0_2] 36 (0, 0))) ∧ (w'.heap[gb694]? = some (.cells #[.int .i64 a1_0, .int .i64 a1_1, .slice A1_2 l1_2.length c1_2] 36 (0, 0))) ∧ (w'.heap[gb716]? = some (.cells #[.int .i64 t710, .int .i64 t711, .slice Ao51 t712.length co51] 26 (0, 0))) ∧ (w'.heap[gb722]? = some (.cells #[.int .i64 t717, .int .i64 t718, .slice Ao61 t757.length co61] 26 (0, 0))) ∧ (w'.heap[gb728]? = some (.cells #[.int .i64 t723, .int .i64 t724, .slice Ao71 t759.length co71] 26 (0, 0))) ∧ (w'.heap[gb738]? = some (.cells #[.int .i64 t732, .int .i64 t733, .slice Ao84 t734.length co84] 26 (0, 0))) ∧ (w'.heap[s_.2.2]? = some (.cells #[.int .i64 0, .int .i64 0, .slice none 0 0] 26 (0, 0))) ∧ (w.heap.size ≤ s_.2.2) ∧ (w.heap.size ≤ s_.2.2) ∧ (gb693 ≠ s_.2.2) ∧ (s_.2.2 ≠ gb693) ∧ (gb694 ≠ s_.2.2) ∧ (s_.2.2 ≠ gb694) ∧ (gb716 ≠ s_.2.2) ∧ (s_.2.2 ≠ gb716) ∧ (gb722 ≠ s_.2.2) ∧ (s_.2.2 ≠ gb722) ∧ (gb728 ≠ s_.2.2) ∧ (s_.2.2 ≠ gb728) ∧ (gb738 ≠ s_.2.2) ∧ (s_.2.2 ≠ gb738) ∧ (Below w.heap.size w w')) ?_ ?_
           rotate_left
           ·
            intro hJ1_3_10
            refine join_ (σ := Value × Value) 8 #[true, true, true, true, true, false, false, false, false, false, false, false, false] (fun s_ => [(115, .agg #[.int .i64 t766, .int .i64 t767, s_.1]), (117, .agg #[.int .i64 t771, .int .i64 t772, s_.2])]) (fun s_ w' => (w'.cell? ⟨gb693, 0, none⟩ = some (.int .i64 a0_0) ∧ w'.cell? ⟨gb693, 1, none⟩ = some (.int .i64 a0_1) ∧ w'.cell? ⟨gb693, 2, none⟩ = some (.slice A0_2 l0_2.length c0_2) ∧ w'.cell? ⟨gb694, 0, none⟩ = some (.int .i64 a1_0) ∧ w'.cell? ⟨gb694, 1, none⟩ = some (.int .i64 a1_1) ∧ w'.cell? ⟨gb694, 2, none⟩ = some (.slice A1_2 l1_2.length c1_2)) ∧ (Kd.R (Kd.int .i64) 3 w' w.heap.size (fun k_ => some k_ ≠ (s_.2 : Value).ownBlock ∧ some k_ ≠ (.slice Ao51 t712.length co51 : Value).ownBlock ∧ some k_ ≠ (.slice Ao61 t757.length co61 : Value).ownBlock ∧ some k_ ≠ (.slice Ao71 t759.length co71 : Value).ownBlock ∧ some k_ ≠ (.slice Ao84 t734.length co84 : Value).ownBlock) s_.1 t768) ∧ (Kd.R (Kd.int .i64) 3 w' w.heap.size (fun k_ => some k_ ≠ (s_.1 : Value).ownBlock ∧ some k_ ≠ (.slice Ao51 t712.length co51 : Value).ownBlock ∧ some k_ ≠ (.slice Ao61 t757.length co61 : Value).ownBlock ∧ some k_ ≠ (.slice Ao71 t759.length co71 : Value).ownBlock ∧ some k_ ≠ (.slice Ao84 t734.length co84 : Value).ownBlock) s_.2 t773) ∧ (Kd.R (Kd.int .i64) 3 w' w.heap.size (fun k_ => some k_ ≠ (s_.1 : Value).ownBlock ∧ some k_ ≠ (s_.2 : Value).ownBlock ∧ some k_ ≠ (.slice Ao61 t757.length co61 : Value).ownBlock ∧ some k_ ≠ (.slice Ao71 t759.length co71 : Value).ownBlock ∧ some k_ ≠ (.slice Ao84 t734.length co84 : Value).ownBlock) (.slice Ao51 t712.length co51) t712) ∧ (Kd.R (Kd.int .i64) 3 w' w.heap.size (fun k_ => some k_ ≠ (s_.1 : Value).ownBlock ∧ some k_ ≠ (s_.2 : Value).ownBlock ∧ some k_ ≠ (.slice Ao51 t712.length co51 : Value).ownBlock ∧ some k_ ≠ (.slice Ao71 t759.length co71 : Value).ownBlock ∧ some k_ ≠ (.slice Ao84 t734.length co84 : Value).ownBlock) (.slice Ao61 t757.length co61) t757) ∧ (Kd.R (Kd.int .i64) 3 w' w.heap.size (fun k_ => some k_ ≠ (s_.1 : Value).ownBlock ∧ some k_ ≠ (s_.2 : Value).ownBlock ∧ some k_ ≠ (.slice Ao51 t712.length co51 : Value).ownBlock ∧ some k_ ≠ (.slice Ao61 t757.length co61 : Value).ownBlock ∧ some k_ ≠ (.slice Ao84 t734.length co84 : Value).ownBlock) (.slice Ao71 t759.length co71) t759) ∧ (Kd.R (Kd.int .i64) 3 w' w.heap.size (fun k_ => some k_ ≠ (s_.1 : Value).ownBlock ∧ some k_ ≠ (s_.2 : Value).ownBlock ∧ some k_ ≠ (.slice Ao51 t712.length co51 : Value).ownBlock ∧ some k_ ≠ (.slice Ao61 t757.length co61 : Value).ownBlock ∧ some k_ ≠ (.slice Ao71 t759.length co71 : Value).ownBlock) (.slice Ao84 t734.length co84) t764) ∧ (w'.heap[gb693]? = some (.cells #[.int .i64 a0_0, .int .i64 a0_1, .slice A0_2 l0_2.length c0_2] 36 (0, 0))) ∧ (w'.heap[gb694]? = some (.cells #[.int .i64 a1_0, .int .i64 a1_1, .slice A1_2 l1_2.length c1_2] 36 (0, 0))) ∧ (w'.heap[gb716]? = some (.cells #[.int .i64 t710, .int .i64 t711, .slice Ao51 t712.length co51] 26 (0, 0))) ∧ (w'.heap[gb722]? = some (.cells #[.int .i64 t717, .int .i64 t718, .slice Ao61 t757.length co61] 26 (0, 0))) ∧ (w'.heap[gb728]? = some (.cells #[.int .i64 t723, .int .i64 t724, .slice Ao71 t759.length co71] 26 (0, 0))) ∧ (w'.heap[gb738]? = some (.cells #[.int .i64 t732, .int .i64 t733, .slice Ao84 t734.length co84] 26 (0, 0))) ∧ (Below w.heap.size w w')) ?_ ?_
            rotate_left
            ·
             intro hJ1_3
             refine join_ (σ := Value × Nat) 8 #[true, true, true, false, true, false, false, false, false, false, true, false, false] (fun s_ => [(115, .agg #[.int .i64 t766, .int .i64 t767, s_.1]), (18, .pointer (some ⟨s_.2, 0, none⟩))]) (fun s_ w' => (w'.cell? ⟨gb693, 0, none⟩ = some (.int .i64 a0_0) ∧ w'.cell? ⟨gb693, 1, none⟩ = some (.int .i64 a0_1) ∧ w'.cell? ⟨gb693, 2, none⟩ = some (.slice A0_2 l0_2.length c0_2) ∧ w'.cell? ⟨gb694, 0, none⟩ = some (.int .i64 a1_0) ∧ w'.cell? ⟨gb694, 1, none⟩ = some (.int .i64 a1_1) ∧ w'.cell? ⟨gb694, 2, none⟩ = some (.slice A1_2 l1_2.length c1_2)) ∧ (Kd.R (Kd.int .i64) 3 w' w.heap.size (fun k_ => some k_ ≠ (.slice Ao51 t712.length co51 : Value).ownBlock ∧ some k_ ≠ (.slice Ao61 t757.length co61 : Value).ownBlock ∧ some k_ ≠ (.slice Ao71 t759.length co71 : Value).ownBlock ∧ some k_ ≠ (.slice Ao84 t734.length co84 : Value).ownBlock) s_.1 t768) ∧ (Kd.R (Kd.int .i64) 3 w' w.heap.size (fun k_ => some k_ ≠ (s_.1 : Value).ownBlock ∧ some k_ ≠ (.slice Ao61 t757.length co61 : Value).ownBlock ∧ some k_ ≠ (.slice Ao71 t759.length co71 : Value).ownBlock ∧ some k_ ≠ (.slice Ao84 t734.length co84 : Value).ownBlock) (.slice Ao51 t712.length co51) t712) ∧ (Kd.R (Kd.int .i64) 3 w' w.heap.size (fun k_ => some k_ ≠ (s_.1 : Value).ownBlock ∧ some k_ ≠ (.slice Ao51 t712.length co51 : Value).ownBlock ∧ some k_ ≠ (.slice Ao71 t759.length co71 : Value).ownBlock ∧ some k_ ≠ (.slice Ao84 t734.length co84 : Value).ownBlock) (.slice Ao61 t757.length co61) t757) ∧ (Kd.R (Kd.int .i64) 3 w' w.heap.size (fun k_ => some k_ ≠ (s_.1 : Value).ownBlock ∧ some k_ ≠ (.slice Ao51 t712.length co51 : Value).ownBlock ∧ some k_ ≠ (.slice Ao61 t757.length co61 : Value).ownBlock ∧ some k_ ≠ (.slice Ao84 t734.length co84 : Value).ownBlock) (.slice Ao71 t759.length co71) t759) ∧ (Kd.R (Kd.int .i64) 3 w' w.heap.size (fun k_ => some k_ ≠ (s_.1 : Value).ownBlock ∧ some k_ ≠ (.slice Ao51 t712.length co51 : Value).ownBlock ∧ some k_ ≠ (.slice Ao61 t757.length co61 : Value).ownBlock ∧ some k_ ≠ (.slice Ao71 t759.length co71 : Value).ownBlock) (.slice Ao84 t734.length co84) t764) ∧ (w'.heap[gb693]? = some (.cells #[.int .i64 a0_0, .int .i64 a0_1, .slice A0_2 l0_2.length c0_2] 36 (0, 0))) ∧ (w'.heap[gb694]? = some (.cells #[.int .i64 a1_0, .int .i64 a1_1, .slice A1_2 l1_2.length c1_2] 36 (0, 0))) ∧ (w'.heap[gb716]? = some (.cells #[.int .i64 t710, .int .i64 t711, .slice Ao51 t712.length co51] 26 (0, 0))) ∧ (w'.heap[gb722]? = some (.cells #[.int .i64 t717, .int .i64 t718, .slice Ao61 t757.length co61] 26 (0, 0))) ∧ (w'.heap[gb728]? = some (.cells #[.int .i64 t723, .int .i64 t724, .slice Ao71 t759.length co71] 26 (0, 0))) ∧ (w'.heap[gb738]? = some (.cells #[.int .i64 t732, .int .i64 t733, .slice Ao84 t734.length co84] 26 (0, 0))) ∧ (w'.heap[s_.2]? = some (.cells #[.int .i64 0, .int .i64 0, .slice none 0 0] 26 (0, 0))) ∧ (w.heap.size ≤ s_.2) ∧ (w.heap.size ≤ s_.2) ∧ (gb693 ≠ s_.2) ∧ (s_.2 ≠ gb693) ∧ (gb694 ≠ s_.2) ∧ (s_.2 ≠ gb694) ∧ (gb716 ≠ s_.2) ∧ (s_.2 ≠ gb716) ∧ (gb722 ≠ s_.2) ∧ (s_.2 ≠ gb722) ∧ (gb728 ≠ s_.2) ∧ (s_.2 ≠ gb728) ∧ (gb738 ≠ s_.2) ∧ (s_.2 ≠ gb738) ∧ (Below w.heap.size w w')) ?_ ?_
             rotate_left
             ·
              intro hJ1_10
              refine join_ (σ := Value) 9 #[true, true, true, false, true, false, false, false, false, false, false, false, false] (fun s_ => [(115, .agg #[.int .i64 t766, .int .i64 t767, s_])]) (fun s_ w' => (w'.cell? ⟨gb693, 0, none⟩ = some (.int .i64 a0_0) ∧ w'.cell? ⟨gb693, 1, none⟩ = some (.int .i64 a0_1) ∧ w'.cell? ⟨gb693, 2, none⟩ = some (.slice A0_2 l0_2.length c0_2) ∧ w'.cell? ⟨gb694, 0, none⟩ = some (.int .i64 a1_0) ∧ w'.cell? ⟨gb694, 1, none⟩ = some (.int .i64 a1_1) ∧ w'.cell? ⟨gb694, 2, none⟩ = some (.slice A1_2 l1_2.length c1_2)) ∧ (Kd.R (Kd.int .i64) 3 w' w.heap.size (fun k_ => some k_ ≠ (.slice Ao51 t712.length co51 : Value).ownBlock ∧ some k_ ≠ (.slice Ao61 t757.length co61 : Value).ownBlock ∧ some k_ ≠ (.slice Ao71 t759.length co71 : Value).ownBlock ∧ some k_ ≠ (.slice Ao84 t734.length co84 : Value).ownBlock) s_ t768) ∧ (Kd.R (Kd.int .i64) 3 w' w.heap.size (fun k_ => some k_ ≠ (s_ : Value).ownBlock ∧ some k_ ≠ (.slice Ao61 t757.length co61 : Value).ownBlock ∧ some k_ ≠ (.slice Ao71 t759.length co71 : Value).ownBlock ∧ some k_ ≠ (.slice Ao84 t734.length co84 : Value).ownBlock) (.slice Ao51 t712.length co51) t712) ∧ (Kd.R (Kd.int .i64) 3 w' w.heap.size (fun k_ => some k_ ≠ (s_ : Value).ownBlock ∧ some k_ ≠ (.slice Ao51 t712.length co51 : Value).ownBlock ∧ some k_ ≠ (.slice Ao71 t759.length co71 : Value).ownBlock ∧ some k_ ≠ (.slice Ao84 t734.length co84 : Value).ownBlock) (.slice Ao61 t757.length co61) t757) ∧ (Kd.R (Kd.int .i64) 3 w' w.heap.size (fun k_ => some k_ ≠ (s_ : Value).ownBlock ∧ some k_ ≠ (.slice Ao51 t712.length co51 : Value).ownBlock ∧ some k_ ≠ (.slice Ao61 t757.length co61 : Value).ownBlock ∧ some k_ ≠ (.slice Ao84 t734.length co84 : Value).ownBlock) (.slice Ao71 t759.length co71) t759) ∧ (Kd.R (Kd.int .i64) 3 w' w.heap.size (fun k_ => some k_ ≠ (s_ : Value).ownBlock ∧ some k_ ≠ (.slice Ao51 t712.length co51 : Value).ownBlock ∧ some k_ ≠ (.slice Ao61 t757.length co61 : Value).ownBlock ∧ some k_ ≠ (.slice Ao71 t759.length co71 : Value).ownBlock) (.slice Ao84 t734.length co84) t764) ∧ (w'.heap[gb693]? = some (.cells #[.int .i64 a0_0, .int .i64 a0_1, .slice A0_2 l0_2.length c0_2] 36 (0, 0))) ∧ (w'.heap[gb694]? = some (.cells #[.int .i64 a1_0, .int .i64 a1_1, .slice A1_2 l1_2.length c1_2] 36 (0, 0))) ∧ (w'.heap[gb716]? = some (.cells #[.int .i64 t710, .int .i64 t711, .slice Ao51 t712.length co51] 26 (0, 0))) ∧ (w'.heap[gb722]? = some (.cells #[.int .i64 t717, .int .i64 t718, .slice Ao61 t757.length co61] 26 (0, 0))) ∧ (w'.heap[gb728]? = some (.cells #[.int .i64 t723, .int .i64 t724, .slice Ao71 t759.length co71] 26 (0, 0))) ∧ (w'.heap[gb738]? = some (.cells #[.int .i64 t732, .int .i64 t733, .slice Ao84 t734.length co84] 26 (0, 0))) ∧ (Below w.heap.size w w')) ?_ ?_
              rotate_left
              ·
               intro hJ1
               refine join_ (σ := Nat) 9 #[true, false, true, false, true, false, false, false, false, false, true, false, false] (fun s_ => [(18, .pointer (some ⟨s_, 0, none⟩))]) (fun s_ w' => (w'.cell? ⟨gb693, 0, none⟩ = some (.int .i64 a0_0) ∧ w'.cell? ⟨gb693, 1, none⟩ = some (.int .i64 a0_1) ∧ w'.cell? ⟨gb693, 2, none⟩ = some (.slice A0_2 l0_2.length c0_2) ∧ w'.cell? ⟨gb694, 0, none⟩ = some (.int .i64 a1_0) ∧ w'.cell? ⟨gb694, 1, none⟩ = some (.int .i64 a1_1) ∧ w'.cell? ⟨gb694, 2, none⟩ = some (.slice A1_2 l1_2.length c1_2)) ∧ (Kd.R (Kd.int .i64) 3 w' w.heap.size (fun k_ => some k_ ≠ (.slice Ao61 t757.length co61 : Value).ownBlock ∧ some k_ ≠ (.slice Ao71 t759.length co71 : Value).ownBlock ∧ some k_ ≠ (.slice Ao84 t734.length co84 : Value).ownBlock) (.slice Ao51 t712.length co51) t712) ∧ (Kd.R (Kd.int .i64) 3 w' w.heap.size (fun k_ => some k_ ≠ (.slice Ao51 t712.length co51 : Value).ownBlock ∧ some k_ ≠ (.slice Ao71 t759.length co71 : Value).ownBlock ∧ some k_ ≠ (.slice Ao84 t734.length co84 : Value).ownBlock) (.slice Ao61 t757.length co61) t757) ∧ (Kd.R (Kd.int .i64) 3 w' w.heap.size (fun k_ => some k_ ≠ (.slice Ao51 t712.length co51 : Value).ownBlock ∧ some k_ ≠ (.slice Ao61 t757.length co61 : Value).ownBlock ∧ some k_ ≠ (.slice Ao84 t734.length co84 : Value).ownBlock) (.slice Ao71 t759.length co71) t759) ∧ (Kd.R (Kd.int .i64) 3 w' w.heap.size (fun k_ => some k_ ≠ (.slice Ao51 t712.length co51 : Value).ownBlock ∧ some k_ ≠ (.slice Ao61 t757.length co61 : Value).ownBlock ∧ some k_ ≠ (.slice Ao71 t759.length co71 : Value).ownBlock) (.slice Ao84 t734.length co84) t764) ∧ (w'.heap[gb693]? = some (.cells #[.int .i64 a0_0, .int .i64 a0_1, .slice A0_2 l0_2.length c0_2] 36 (0, 0))) ∧ (w'.heap[gb694]? = some (.cells #[.int .i64 a1_0, .int .i64 a1_1, .slice A1_2 l1_2.length c1_2] 36 (0, 0))) ∧ (w'.heap[gb716]? = some (.cells #[.int .i64 t710, .int .i64 t711, .slice Ao51 t712.length co51] 26 (0, 0))) ∧ (w'.heap[gb722]? = some (.cells #[.int .i64 t717, .int .i64 t718, .slice Ao61 t757.length co61] 26 (0, 0))) ∧ (w'.heap[gb728]? = some (.cells #[.int .i64 t723, .int .i64 t724, .slice Ao71 t759.length co71] 26 (0, 0))) ∧ (w'.heap[gb738]? = some (.cells #[.int .i64 t732, .int .i64 t733, .slice Ao84 t734.length co84] 26 (0, 0))) ∧ (w'.heap[s_]? = some (.cells #[.int .i64 0, .int .i64 0, .slice none 0 0] 26 (0, 0))) ∧ (w.heap.size ≤ s_) ∧ (w.heap.size ≤ s_) ∧ (gb693 ≠ s_) ∧ (s_ ≠ gb693) ∧ (gb694 ≠ s_) ∧ (s_ ≠ gb694) ∧ (gb716 ≠ s_) ∧ (s_ ≠ gb716) ∧ (gb722 ≠ s_) ∧ (s_ ≠ gb722) ∧ (gb728 ≠ s_) ∧ (s_ ≠ gb728) ∧ (gb738 ≠ s_) ∧ (s_ ≠ gb738) ∧ (Below w.heap.size w w')) ?_ ?_
               rotate_left
               ·
                intro hJ10
                refine two_ (i := 1) (j := 10) (Ni := some 115) (Nj := some 18) #[true, true, true, false, true, false, false, false, false, false, false, false, false] #[true, false, true, false, true, false, false, false, false, false, true, false, false] rfl rfl rfl rfl (two_of HT_.out (by kernel_rfl)) (by decide) (by decide) (fun K hK => ?_) (fun K hK => ?_)
                ·
                 skip
                 refine goes_ Try.func22 (by kernel_rfl) rfl #[.agg #[.int .i64 a0_0, .int .i64 a0_1, .slice A0_2 l0_2.length c0_2]] (by rfl) rfl rfl mc173 ?_
                 with_reducible refine (laws_toField.calls kj123 a0_0 a0_1 _ _ l0_2 t766 t767 t768 _ ?side1 ?side2 A190.out).mono ?_
                 (case side1 => exact mc132)
                 (case side2 => exact HC0_2.out)
                 rintro e w205 ⟨v769, rfl, ho0, hb⟩
                 refine ⟨_, rfl, ?_⟩
                 have HO770 := Aside0.mk (Kd.R_lower (Kd.R_new' (Kd.R_new' (Kd.R_new' (Kd.R_new' ho0 (Kd.R_lt mc204)) (Kd.R_lt mc205)) (Kd.R_lt mc206)) (Kd.R_lt mc207)) (below_size mc52))
                 replace HO_717002 := Aside0.mk (Kd.R_elder' mc204 (Kd.R_base ho0) hb)
                 replace HO_723002 := Aside0.mk (Kd.R_elder' mc205 (Kd.R_base ho0) hb)
                 replace HO_729002 := Aside0.mk (Kd.R_elder' mc206 (Kd.R_base ho0) hb)
                 replace HO_739002 := Aside0.mk (Kd.R_elder' mc207 (Kd.R_base ho0) hb)
                 replace BK693 := Aside0.mk (blk_below BK693.out hb)
                 replace BK694 := Aside0.mk (blk_below BK694.out hb)
                 replace BK716 := Aside0.mk (blk_below BK716.out hb)
                 replace BK722 := Aside0.mk (blk_below BK722.out hb)
                 replace BK728 := Aside0.mk (blk_below BK728.out hb)
                 replace BK738 := Aside0.mk (blk_below BK738.out hb)
                 replace HB := Aside0.mk (below_step mc52 hb)
                 (try clear hb)
                 (try clear hb2)
                 (try clear hk)
                 (try clear hi)
                 (try clear ho0)
                 refine hK.out _ _ ⟨bc_ BK693 0 rfl, bc_ BK693 1 rfl, bc_ BK693 2 rfl, bc_ BK694 0 rfl, bc_ BK694 1 rfl, bc_ BK694 2 rfl⟩ (fun hHeld => ?_)
                 clear hK K
                 refine norm_ (by show Act.put _ (some 115) _ = _; simp only [Act.put, List.setIfInBounds_toArray, List.set_cons_zero, List.set_cons_succ, i64_w, i32_w]; rfl) ?_
                 exact norm_ mc85 (hJ1 (v769) _ ⟨hHeld, mc139, mc135, mc136, mc137, mc138, BK693.out, BK694.out, BK716.out, BK722.out, BK728.out, BK738.out, mc52⟩)
                skip
                refine box_step ?hg (N := 18) ?hd (cs := #[.int .i64 0, .int .i64 0, .slice none 0 0]) (t := 26) ?hr ?_; (case hd => rfl); (case hg => rfl); (case hr => exact mc242)
                intro gb785 hg w205 hbox hb
                replace HO_717002 := Aside0.mk (Kd.R_below mc204 hb)
                replace HO_723002 := Aside0.mk (Kd.R_below mc205 hb)
                replace HO_729002 := Aside0.mk (Kd.R_below mc206 hb)
                replace HO_739002 := Aside0.mk (Kd.R_below mc207 hb)
                have BK785 := Aside0.mk (hbox)
                have GW785 := Aside0.mk ((mc49 : w.heap.size ≤ gb785))
                have GE785 := Aside0.mk ((mc49 : w.heap.size ≤ gb785))
                replace HB := Aside0.mk (below_step mc52 hb)
                have NB693_785 := Aside0.mk ((mc231 : gb693 ≠ gb785))
                have NB785_693 := Aside0.mk ((mc232 : gb785 ≠ gb693))
                replace BK693 := Aside0.mk (blk_below BK693.out hb)
                have NB694_785 := Aside0.mk ((mc233 : gb694 ≠ gb785))
                have NB785_694 := Aside0.mk ((mc234 : gb785 ≠ gb694))
                replace BK694 := Aside0.mk (blk_below BK694.out hb)
                have NB716_785 := Aside0.mk ((mc235 : gb716 ≠ gb785))
                have NB785_716 := Aside0.mk ((mc236 : gb785 ≠ gb716))
                replace BK716 := Aside0.mk (blk_below BK716.out hb)
                have NB722_785 := Aside0.mk ((mc237 : gb722 ≠ gb785))
                have NB785_722 := Aside0.mk ((mc238 : gb785 ≠ gb722))
                replace BK722 := Aside0.mk (blk_below BK722.out hb)
                have NB728_785 := Aside0.mk ((mc239 : gb728 ≠ gb785))
                have NB785_728 := Aside0.mk ((mc240 : gb785 ≠ gb728))
                replace BK728 := Aside0.mk (blk_below BK728.out hb)
                have NB738_785 := Aside0.mk ((by rw [hg]; exact Nat.ne_of_lt (blk_lt BK738.out) : gb738 ≠ gb785))
                have NB785_738 := Aside0.mk ((by rw [hg]; exact Nat.ne_of_gt (blk_lt BK738.out) : gb785 ≠ gb738))
                replace BK738 := Aside0.mk (blk_below BK738.out hb)
                clear hb hbox hg
                refine hK.out _ _ ⟨bc_ BK693 0 rfl, bc_ BK693 1 rfl, bc_ BK693 2 rfl, bc_ BK694 0 rfl, bc_ BK694 1 rfl, bc_ BK694 2 rfl⟩ (fun hHeld => ?_)
                clear hK K
                refine norm_ mc175 ?_
                exact norm_ mc85 (hJ10 (gb785) _ ⟨hHeld, mc204, mc205, mc206, mc207, BK693.out, BK694.out, BK716.out, BK722.out, BK728.out, BK738.out, BK785.out, GW785.out, GE785.out, NB693_785.out, NB785_693.out, NB694_785.out, NB785_694.out, NB716_785.out, NB785_716.out, NB722_785.out, NB785_722.out, NB728_785.out, NB785_728.out, NB738_785.out, NB785_738.out, mc50⟩)
               ·
                skip
                rintro gb785 w206 ⟨hS_, h0_, h1_, h2_, h3_, h4_, h5_, h6_, h7_, h8_, h9_, h10_, h11_, h12_, h13_, h14_, h15_, h16_, h17_, h18_, h19_, h20_, h21_, h22_, h23_, h24_, h25_⟩
                try dsimp only at h0_ h1_ h2_ h3_ h4_ h5_ h6_ h7_ h8_ h9_ h10_ h11_ h12_ h13_ h14_ h15_ h16_ h17_ h18_ h19_ h20_ h21_ h22_ h23_ h24_ h25_
                replace HO_717002 := Aside0.mk h0_
                replace HO_723002 := Aside0.mk h1_
                replace HO_729002 := Aside0.mk h2_
                replace HO_739002 := Aside0.mk h3_
                replace BK693 := Aside0.mk h4_
                replace BK694 := Aside0.mk h5_
                replace BK716 := Aside0.mk h6_
                replace BK722 := Aside0.mk h7_
                replace BK728 := Aside0.mk h8_
                replace BK738 := Aside0.mk h9_
                have BK785 := Aside0.mk h10_
                have GW785 := Aside0.mk h11_
                have GE785 := Aside0.mk h12_
                have NB693_785 := Aside0.mk h13_
                have NB785_693 := Aside0.mk h14_
                have NB694_785 := Aside0.mk h15_
                have NB785_694 := Aside0.mk h16_
                have NB716_785 := Aside0.mk h17_
                have NB785_716 := Aside0.mk h18_
                have NB722_785 := Aside0.mk h19_
                have NB785_722 := Aside0.mk h20_
                have NB728_785 := Aside0.mk h21_
                have NB785_728 := Aside0.mk h22_
                have NB738_785 := Aside0.mk h23_
                have NB785_738 := Aside0.mk h24_
                replace HB := Aside0.mk h25_
                clear h0_ h1_ h2_ h3_ h4_ h5_ h6_ h7_ h8_ h9_ h10_ h11_ h12_ h13_ h14_ h15_ h16_ h17_ h18_ h19_ h20_ h21_ h22_ h23_ h24_ h25_
                have hHeld : w206.cell? ⟨gb693, 0, none⟩ = some (.int .i64 a0_0) ∧ w206.cell? ⟨gb693, 1, none⟩ = some (.int .i64 a0_1) ∧ w206.cell? ⟨gb693, 2, none⟩ = some (.slice A0_2 l0_2.length c0_2) ∧ w206.cell? ⟨gb694, 0, none⟩ = some (.int .i64 a1_0) ∧ w206.cell? ⟨gb694, 1, none⟩ = some (.int .i64 a1_1) ∧ w206.cell? ⟨gb694, 2, none⟩ = some (.slice A1_2 l1_2.length c1_2) := hS_
                refine norm_ (a' := ?_) ?_ ?_
                rotate_left
                ·
                 simp only [putAll, Act.put, List.setIfInBounds_toArray, List.set_cons_zero, List.set_cons_succ]
                 rfl
                refine one_ (i := 1) (N := some 115) #[true, true, true, false, true, false, false, false, false, false, true, false, false] rfl rfl (one_of HT_.out (by kernel_rfl)) (by decide) (fun K hK => ?_)
                refine goes_ Try.func22 (by kernel_rfl) rfl #[.agg #[.int .i64 a0_0, .int .i64 a0_1, .slice A0_2 l0_2.length c0_2]] (by rfl) rfl rfl mc173 ?_
                with_reducible refine (laws_toField.calls kj123 a0_0 a0_1 _ _ l0_2 t766 t767 t768 _ ?side1 ?side2 A190.out).mono ?_
                (case side1 => exact mc132)
                (case side2 => exact HC0_2.out)
                rintro e w207 ⟨v769, rfl, ho0, hb⟩
                refine ⟨_, rfl, ?_⟩
                have HO770 := Aside0.mk (Kd.R_lower (Kd.R_new' (Kd.R_new' (Kd.R_new' (Kd.R_new' ho0 (Kd.R_lt mc204)) (Kd.R_lt mc205)) (Kd.R_lt mc206)) (Kd.R_lt mc207)) (below_size mc50))
                replace HO_717002 := Aside0.mk (Kd.R_elder' mc204 (Kd.R_base ho0) hb)
                replace HO_723002 := Aside0.mk (Kd.R_elder' mc205 (Kd.R_base ho0) hb)
                replace HO_729002 := Aside0.mk (Kd.R_elder' mc206 (Kd.R_base ho0) hb)
                replace HO_739002 := Aside0.mk (Kd.R_elder' mc207 (Kd.R_base ho0) hb)
                replace BK693 := Aside0.mk (blk_below BK693.out hb)
                replace BK694 := Aside0.mk (blk_below BK694.out hb)
                replace BK716 := Aside0.mk (blk_below BK716.out hb)
                replace BK722 := Aside0.mk (blk_below BK722.out hb)
                replace BK728 := Aside0.mk (blk_below BK728.out hb)
                replace BK738 := Aside0.mk (blk_below BK738.out hb)
                replace BK785 := Aside0.mk (blk_below BK785.out hb)
                replace HB := Aside0.mk (below_step mc50 hb)
                (try clear hb)
                (try clear hb2)
                (try clear hk)
                (try clear hi)
                (try clear ho0)
                refine hK.out _ _ ⟨bc_ BK693 0 rfl, bc_ BK693 1 rfl, bc_ BK693 2 rfl, bc_ BK694 0 rfl, bc_ BK694 1 rfl, bc_ BK694 2 rfl⟩ (fun hHeld => ?_)
                clear hK K
                refine norm_ (by show Act.put _ (some 115) _ = _; simp only [Act.put, List.setIfInBounds_toArray, List.set_cons_zero, List.set_cons_succ, i64_w, i32_w]; rfl) ?_
                exact norm_ mc85 (hJ1_10 (v769, gb785) _ ⟨hHeld, mc139, mc135, mc136, mc137, mc138, BK693.out, BK694.out, BK716.out, BK722.out, BK728.out, BK738.out, BK785.out, GW785.out, GE785.out, NB693_785.out, NB785_693.out, NB694_785.out, NB785_694.out, NB716_785.out, NB785_716.out, NB722_785.out, NB785_722.out, NB728_785.out, NB785_728.out, NB738_785.out, NB785_738.out, mc50⟩)
              ·
               skip
               rintro v769 w206 ⟨hS_, h0_, h1_, h2_, h3_, h4_, h5_, h6_, h7_, h8_, h9_, h10_, h11_⟩
               try dsimp only at h0_ h1_ h2_ h3_ h4_ h5_ h6_ h7_ h8_ h9_ h10_ h11_
               have HO770 := Aside0.mk h0_
               replace HO_717002 := Aside0.mk h1_
               replace HO_723002 := Aside0.mk h2_
               replace HO_729002 := Aside0.mk h3_
               replace HO_739002 := Aside0.mk h4_
               replace BK693 := Aside0.mk h5_
               replace BK694 := Aside0.mk h6_
               replace BK716 := Aside0.mk h7_
               replace BK722 := Aside0.mk h8_
               replace BK728 := Aside0.mk h9_
               replace BK738 := Aside0.mk h10_
               replace HB := Aside0.mk h11_
               clear h0_ h1_ h2_ h3_ h4_ h5_ h6_ h7_ h8_ h9_ h10_ h11_
               have hHeld : w206.cell? ⟨gb693, 0, none⟩ = some (.int .i64 a0_0) ∧ w206.cell? ⟨gb693, 1, none⟩ = some (.int .i64 a0_1) ∧ w206.cell? ⟨gb693, 2, none⟩ = some (.slice A0_2 l0_2.length c0_2) ∧ w206.cell? ⟨gb694, 0, none⟩ = some (.int .i64 a1_0) ∧ w206.cell? ⟨gb694, 1, none⟩ = some (.int .i64 a1_1) ∧ w206.cell? ⟨gb694, 2, none⟩ = some (.slice A1_2 l1_2.length c1_2) := hS_
               refine norm_ (a' := ?_) ?_ ?_
               rotate_left
               ·
                simp only [putAll, Act.put, List.setIfInBounds_toArray, List.set_cons_zero, List.set_cons_succ]
                rfl
               refine two_ (i := 3) (j := 10) (Ni := some 117) (Nj := some 18) #[true, true, true, true, true, false, false, false, false, false, false, false, false] #[true, true, true, false, true, false, false, false, false, false, true, false, false] rfl rfl rfl rfl (two_of HT_.out (by kernel_rfl)) (by decide) (by decide) (fun K hK => ?_) (fun K hK => ?_)
               ·
                skip
                refine goes_ Try.func22 (by kernel_rfl) rfl #[.agg #[.int .i64 a1_0, .int .i64 a1_1, .slice A1_2 l1_2.length c1_2]] (by rfl) rfl rfl mc173 ?_
                with_reducible refine (laws_toField.calls kj123 a1_0 a1_1 _ _ l1_2 t771 t772 t773 _ ?side1 ?side2 A191.out).mono ?_
                (case side1 => exact mc133)
                (case side2 => exact HC1_2.out)
                rintro e w207 ⟨v774, rfl, ho0, hb⟩
                refine ⟨_, rfl, ?_⟩
                have HO775 := Aside0.mk (Kd.R_lower (Kd.R_new' (Kd.R_new' (Kd.R_new' (Kd.R_new' (Kd.R_new' ho0 (Kd.R_lt mc204)) (Kd.R_lt mc205)) (Kd.R_lt mc206)) (Kd.R_lt mc207)) (Kd.R_lt mc222)) (below_size mc52))
                replace HO_717002 := Aside0.mk (Kd.R_elder' mc204 (Kd.R_base ho0) hb)
                replace HO_723002 := Aside0.mk (Kd.R_elder' mc205 (Kd.R_base ho0) hb)
                replace HO_729002 := Aside0.mk (Kd.R_elder' mc206 (Kd.R_base ho0) hb)
                replace HO_739002 := Aside0.mk (Kd.R_elder' mc207 (Kd.R_base ho0) hb)
                replace HO770 := Aside0.mk (Kd.R_elder' mc222 (Kd.R_base ho0) hb)
                replace BK693 := Aside0.mk (blk_below BK693.out hb)
                replace BK694 := Aside0.mk (blk_below BK694.out hb)
                replace BK716 := Aside0.mk (blk_below BK716.out hb)
                replace BK722 := Aside0.mk (blk_below BK722.out hb)
                replace BK728 := Aside0.mk (blk_below BK728.out hb)
                replace BK738 := Aside0.mk (blk_below BK738.out hb)
                replace HB := Aside0.mk (below_step mc52 hb)
                (try clear hb)
                (try clear hb2)
                (try clear hk)
                (try clear hi)
                (try clear ho0)
                refine hK.out _ _ ⟨bc_ BK693 0 rfl, bc_ BK693 1 rfl, bc_ BK693 2 rfl, bc_ BK694 0 rfl, bc_ BK694 1 rfl, bc_ BK694 2 rfl⟩ (fun hHeld => ?_)
                clear hK K
                refine norm_ (by show Act.put _ (some 117) _ = _; simp only [Act.put, List.setIfInBounds_toArray, List.set_cons_zero, List.set_cons_succ, i64_w, i32_w]; rfl) ?_
                exact norm_ mc85 (hJ1_3 (v769, v774) _ ⟨hHeld, mc122, mc121, mc117, mc118, mc119, mc120, BK693.out, BK694.out, BK716.out, BK722.out, BK728.out, BK738.out, mc52⟩)
               skip
               refine box_step ?hg (N := 18) ?hd (cs := #[.int .i64 0, .int .i64 0, .slice none 0 0]) (t := 26) ?hr ?_; (case hd => rfl); (case hg => rfl); (case hr => exact mc242)
               intro gb785 hg w207 hbox hb
               replace HO_717002 := Aside0.mk (Kd.R_below mc204 hb)
               replace HO_723002 := Aside0.mk (Kd.R_below mc205 hb)
               replace HO_729002 := Aside0.mk (Kd.R_below mc206 hb)
               replace HO_739002 := Aside0.mk (Kd.R_below mc207 hb)
               replace HO770 := Aside0.mk (Kd.R_below mc222 hb)
               have BK785 := Aside0.mk (hbox)
               have GW785 := Aside0.mk ((mc49 : w.heap.size ≤ gb785))
               have GE785 := Aside0.mk ((mc49 : w.heap.size ≤ gb785))
               replace HB := Aside0.mk (below_step mc52 hb)
               have NB693_785 := Aside0.mk ((mc231 : gb693 ≠ gb785))
               have NB785_693 := Aside0.mk ((mc232 : gb785 ≠ gb693))
               replace BK693 := Aside0.mk (blk_below BK693.out hb)
               have NB694_785 := Aside0.mk ((mc233 : gb694 ≠ gb785))
               have NB785_694 := Aside0.mk ((mc234 : gb785 ≠ gb694))
               replace BK694 := Aside0.mk (blk_below BK694.out hb)
               have NB716_785 := Aside0.mk ((mc235 : gb716 ≠ gb785))
               have NB785_716 := Aside0.mk ((mc236 : gb785 ≠ gb716))
               replace BK716 := Aside0.mk (blk_below BK716.out hb)
               have NB722_785 := Aside0.mk ((mc237 : gb722 ≠ gb785))
               have NB785_722 := Aside0.mk ((mc238 : gb785 ≠ gb722))
               replace BK722 := Aside0.mk (blk_below BK722.out hb)
               have NB728_785 := Aside0.mk ((mc239 : gb728 ≠ gb785))
               have NB785_728 := Aside0.mk ((mc240 : gb785 ≠ gb728))
               replace BK728 := Aside0.mk (blk_below BK728.out hb)
               have NB738_785 := Aside0.mk ((by rw [hg]; exact Nat.ne_of_lt (blk_lt BK738.out) : gb738 ≠ gb785))
               have NB785_738 := Aside0.mk ((by rw [hg]; exact Nat.ne_of_gt (blk_lt BK738.out) : gb785 ≠ gb738))
               replace BK738 := Aside0.mk (blk_below BK738.out hb)
               clear hb hbox hg
               refine hK.out _ _ ⟨bc_ BK693 0 rfl, bc_ BK693 1 rfl, bc_ BK693 2 rfl, bc_ BK694 0 rfl, bc_ BK694 1 rfl, bc_ BK694 2 rfl⟩ (fun hHeld => ?_)
               clear hK K
               refine norm_ mc175 ?_
               exact norm_ mc85 (hJ1_10 (v769, gb785) _ ⟨hHeld, mc222, mc204, mc205, mc206, mc207, BK693.out, BK694.out, BK716.out, BK722.out, BK728.out, BK738.out, BK785.out, GW785.out, GE785.out, NB693_785.out, NB785_693.out, NB694_785.out, NB785_694.out, NB716_785.out, NB785_716.out, NB722_785.out, NB785_722.out, NB728_785.out, NB785_728.out, NB738_785.out, NB785_738.out, mc50⟩)
             ·
              skip
              rintro ⟨v769, gb785⟩ w207 ⟨hS_, h0_, h1_, h2_, h3_, h4_, h5_, h6_, h7_, h8_, h9_, h10_, h11_, h12_, h13_, h14_, h15_, h16_, h17_, h18_, h19_, h20_, h21_, h22_, h23_, h24_, h25_, h26_⟩
              try dsimp only at h0_ h1_ h2_ h3_ h4_ h5_ h6_ h7_ h8_ h9_ h10_ h11_ h12_ h13_ h14_ h15_ h16_ h17_ h18_ h19_ h20_ h21_ h22_ h23_ h24_ h25_ h26_
              have HO770 := Aside0.mk h0_
              replace HO_717002 := Aside0.mk h1_
              replace HO_723002 := Aside0.mk h2_
              replace HO_729002 := Aside0.mk h3_
              replace HO_739002 := Aside0.mk h4_
              replace BK693 := Aside0.mk h5_
              replace BK694 := Aside0.mk h6_
              replace BK716 := Aside0.mk h7_
              replace BK722 := Aside0.mk h8_
              replace BK728 := Aside0.mk h9_
              replace BK738 := Aside0.mk h10_
              have BK785 := Aside0.mk h11_
              have GW785 := Aside0.mk h12_
              have GE785 := Aside0.mk h13_
              have NB693_785 := Aside0.mk h14_
              have NB785_693 := Aside0.mk h15_
              have NB694_785 := Aside0.mk h16_
              have NB785_694 := Aside0.mk h17_
              have NB716_785 := Aside0.mk h18_
              have NB785_716 := Aside0.mk h19_
              have NB722_785 := Aside0.mk h20_
              have NB785_722 := Aside0.mk h21_
              have NB728_785 := Aside0.mk h22_
              have NB785_728 := Aside0.mk h23_
              have NB738_785 := Aside0.mk h24_
              have NB785_738 := Aside0.mk h25_
              replace HB := Aside0.mk h26_
              clear h0_ h1_ h2_ h3_ h4_ h5_ h6_ h7_ h8_ h9_ h10_ h11_ h12_ h13_ h14_ h15_ h16_ h17_ h18_ h19_ h20_ h21_ h22_ h23_ h24_ h25_ h26_
              have hHeld : w207.cell? ⟨gb693, 0, none⟩ = some (.int .i64 a0_0) ∧ w207.cell? ⟨gb693, 1, none⟩ = some (.int .i64 a0_1) ∧ w207.cell? ⟨gb693, 2, none⟩ = some (.slice A0_2 l0_2.length c0_2) ∧ w207.cell? ⟨gb694, 0, none⟩ = some (.int .i64 a1_0) ∧ w207.cell? ⟨gb694, 1, none⟩ = some (.int .i64 a1_1) ∧ w207.cell? ⟨gb694, 2, none⟩ = some (.slice A1_2 l1_2.length c1_2) := hS_
              refine norm_ (a' := ?_) ?_ ?_
              rotate_left
              ·
               simp only [putAll, Act.put, List.setIfInBounds_toArray, List.set_cons_zero, List.set_cons_succ]
               rfl
              refine one_ (i := 3) (N := some 117) #[true, true, true, true, true, false, false, false, false, false, true, false, false] rfl rfl (one_of HT_.out (by kernel_rfl)) (by decide) (fun K hK => ?_)
              refine goes_ Try.func22 (by kernel_rfl) rfl #[.agg #[.int .i64 a1_0, .int .i64 a1_1, .slice A1_2 l1_2.length c1_2]] (by rfl) rfl rfl mc173 ?_
              with_reducible refine (laws_toField.calls kj123 a1_0 a1_1 _ _ l1_2 t771 t772 t773 _ ?side1 ?side2 A191.out).mono ?_
              (case side1 => exact mc133)
              (case side2 => exact HC1_2.out)
              rintro e w208 ⟨v774, rfl, ho0, hb⟩
              refine ⟨_, rfl, ?_⟩
              have HO775 := Aside0.mk (Kd.R_lower (Kd.R_new' (Kd.R_new' (Kd.R_new' (Kd.R_new' (Kd.R_new' ho0 (Kd.R_lt mc204)) (Kd.R_lt mc205)) (Kd.R_lt mc206)) (Kd.R_lt mc207)) (Kd.R_lt mc222)) (below_size mc50))
              replace HO_717002 := Aside0.mk (Kd.R_elder' mc204 (Kd.R_base ho0) hb)
              replace HO_723002 := Aside0.mk (Kd.R_elder' mc205 (Kd.R_base ho0) hb)
              replace HO_729002 := Aside0.mk (Kd.R_elder' mc206 (Kd.R_base ho0) hb)
              replace HO_739002 := Aside0.mk (Kd.R_elder' mc207 (Kd.R_base ho0) hb)
              replace HO770 := Aside0.mk (Kd.R_elder' mc222 (Kd.R_base ho0) hb)
              replace BK693 := Aside0.mk (blk_below BK693.out hb)
              replace BK694 := Aside0.mk (blk_below BK694.out hb)
              replace BK716 := Aside0.mk (blk_below BK716.out hb)
              replace BK722 := Aside0.mk (blk_below BK722.out hb)
              replace BK728 := Aside0.mk (blk_below BK728.out hb)
              replace BK738 := Aside0.mk (blk_below BK738.out hb)
              replace BK785 := Aside0.mk (blk_below BK785.out hb)
              replace HB := Aside0.mk (below_step mc50 hb)
              (try clear hb)
              (try clear hb2)
              (try clear hk)
              (try clear hi)
              (try clear ho0)
              refine hK.out _ _ ⟨bc_ BK693 0 rfl, bc_ BK693 1 rfl, bc_ BK693 2 rfl, bc_ BK694 0 rfl, bc_ BK694 1 rfl, bc_ BK694 2 rfl⟩ (fun hHeld => ?_)
              clear hK K
              refine norm_ (by show Act.put _ (some 117) _ = _; simp only [Act.put, List.setIfInBounds_toArray, List.set_cons_zero, List.set_cons_succ, i64_w, i32_w]; rfl) ?_
              exact norm_ mc85 (hJ1_3_10 (v769, v774, gb785) _ ⟨hHeld, mc122, mc121, mc117, mc118, mc119, mc120, BK693.out, BK694.out, BK716.out, BK722.out, BK728.out, BK738.out, BK785.out, GW785.out, GE785.out, NB693_785.out, NB785_693.out, NB694_785.out, NB785_694.out, NB716_785.out, NB785_716.out, NB722_785.out, NB785_722.out, NB728_785.out, NB785_728.out, NB738_785.out, NB785_738.out, mc50⟩)
            ·
             skip
             rintro ⟨v769, v774⟩ w207 ⟨hS_, h0_, h1_, h2_, h3_, h4_, h5_, h6_, h7_, h8_, h9_, h10_, h11_, h12_⟩
             try dsimp only at h0_ h1_ h2_ h3_ h4_ h5_ h6_ h7_ h8_ h9_ h10_ h11_ h12_
             have HO770 := Aside0.mk h0_
             have HO775 := Aside0.mk h1_
             replace HO_717002 := Aside0.mk h2_
             replace HO_723002 := Aside0.mk h3_
             replace HO_729002 := Aside0.mk h4_
             replace HO_739002 := Aside0.mk h5_
             replace BK693 := Aside0.mk h6_
             replace BK694 := Aside0.mk h7_
             replace BK716 := Aside0.mk h8_
             replace BK722 := Aside0.mk h9_
             replace BK728 := Aside0.mk h10_
             replace BK738 := Aside0.mk h11_
             replace HB := Aside0.mk h12_
             clear h0_ h1_ h2_ h3_ h4_ h5_ h6_ h7_ h8_ h9_ h10_ h11_ h12_
             have hHeld : w207.cell? ⟨gb693, 0, none⟩ = some (.int .i64 a0_0) ∧ w207.cell? ⟨gb693, 1, none⟩ = some (.int .i64 a0_1) ∧ w207.cell? ⟨gb693, 2, none⟩ = some (.slice A0_2 l0_2.length c0_2) ∧ w207.cell? ⟨gb694, 0, none⟩ = some (.int .i64 a1_0) ∧ w207.cell? ⟨gb694, 1, none⟩ = some (.int .i64 a1_1) ∧ w207.cell? ⟨gb694, 2, none⟩ = some (.slice A1_2 l1_2.length c1_2) := hS_
             refine norm_ (a' := ?_) ?_ ?_
             rotate_left
             ·
              simp only [putAll, Act.put, List.setIfInBounds_toArray, List.set_cons_zero, List.set_cons_succ]
              rfl
             refine two_ (i := 5) (j := 10) (Ni := some 119) (Nj := some 18) #[true, true, true, true, true, true, false, false, false, false, false, false, false] #[true, true, true, true, true, false, false, false, false, false, true, false, false] rfl rfl rfl rfl (two_of HT_.out (by kernel_rfl)) (by decide) (by decide) (fun K hK => ?_) (fun K hK => ?_)
             ·
              skip
              refine goes_ Try.func23 (by kernel_rfl) rfl #[.slice A2 l2.length c2] (by rfl) rfl rfl mc173 ?_
              with_reducible refine (laws_toIntS.calls kj123 _ _ l2 t776 _ ?side1 ?side2 A192.out).mono ?_
              (case side1 => exact mc134)
              (case side2 => exact HC2.out)
              rintro e w208 ⟨v777, rfl, ho0, hb⟩
              refine ⟨_, rfl, ?_⟩
              have HO778 := Aside0.mk (Kd.R_lower (Kd.R_new' (Kd.R_new' (Kd.R_new' (Kd.R_new' (Kd.R_new' (Kd.R_new' ho0 (Kd.R_lt mc204)) (Kd.R_lt mc205)) (Kd.R_lt mc206)) (Kd.R_lt mc207)) (Kd.R_lt mc222)) (Kd.R_lt mc223)) (below_size mc52))
              replace HO_717002 := Aside0.mk (Kd.R_elder' mc204 (Kd.R_base ho0) hb)
              replace HO_723002 := Aside0.mk (Kd.R_elder' mc205 (Kd.R_base ho0) hb)
              replace HO_729002 := Aside0.mk (Kd.R_elder' mc206 (Kd.R_base ho0) hb)
              replace HO_739002 := Aside0.mk (Kd.R_elder' mc207 (Kd.R_base ho0) hb)
              replace HO770 := Aside0.mk (Kd.R_elder' mc222 (Kd.R_base ho0) hb)
              replace HO775 := Aside0.mk (Kd.R_elder' mc223 (Kd.R_base ho0) hb)
              replace BK693 := Aside0.mk (blk_below BK693.out hb)
              replace BK694 := Aside0.mk (blk_below BK694.out hb)
              replace BK716 := Aside0.mk (blk_below BK716.out hb)
              replace BK722 := Aside0.mk (blk_below BK722.out hb)
              replace BK728 := Aside0.mk (blk_below BK728.out hb)
              replace BK738 := Aside0.mk (blk_below BK738.out hb)
              replace HB := Aside0.mk (below_step mc52 hb)
              (try clear hb)
              (try clear hb2)
              (try clear hk)
              (try clear hi)
              (try clear ho0)
              refine hK.out _ _ ⟨bc_ BK693 0 rfl, bc_ BK693 1 rfl, bc_ BK693 2 rfl, bc_ BK694 0 rfl, bc_ BK694 1 rfl, bc_ BK694 2 rfl⟩ (fun hHeld => ?_)
              clear hK K
              refine norm_ (by show Act.put _ (some 119) _ = _; simp only [Act.put, List.setIfInBounds_toArray, List.set_cons_zero, List.set_cons_succ, i64_w, i32_w]; rfl) ?_
              exact norm_ mc85 (hJ1_3_5 (v769, v774, v777) _ ⟨hHeld, mc93, mc94, mc92, mc87, mc88, mc89, mc90, BK693.out, BK694.out, BK716.out, BK722.out, BK728.out, BK738.out, mc52⟩)
             skip
             refine box_step ?hg (N := 18) ?hd (cs := #[.int .i64 0, .int .i64 0, .slice none 0 0]) (t := 26) ?hr ?_; (case hd => rfl); (case hg => rfl); (case hr => exact mc242)
             intro gb785 hg w208 hbox hb
             replace HO_717002 := Aside0.mk (Kd.R_below mc204 hb)
             replace HO_723002 := Aside0.mk (Kd.R_below mc205 hb)
             replace HO_729002 := Aside0.mk (Kd.R_below mc206 hb)
             replace HO_739002 := Aside0.mk (Kd.R_below mc207 hb)
             replace HO770 := Aside0.mk (Kd.R_below mc222 hb)
             replace HO775 := Aside0.mk (Kd.R_below mc223 hb)
             have BK785 := Aside0.mk (hbox)
             have GW785 := Aside0.mk ((mc49 : w.heap.size ≤ gb785))
             have GE785 := Aside0.mk ((mc49 : w.heap.size ≤ gb785))
             replace HB := Aside0.mk (below_step mc52 hb)
             have NB693_785 := Aside0.mk ((mc231 : gb693 ≠ gb785))
             have NB785_693 := Aside0.mk ((mc232 : gb785 ≠ gb693))
             replace BK693 := Aside0.mk (blk_below BK693.out hb)
             have NB694_785 := Aside0.mk ((mc233 : gb694 ≠ gb785))
             have NB785_694 := Aside0.mk ((mc234 : gb785 ≠ gb694))
             replace BK694 := Aside0.mk (blk_below BK694.out hb)
             have NB716_785 := Aside0.mk ((mc235 : gb716 ≠ gb785))
             have NB785_716 := Aside0.mk ((mc236 : gb785 ≠ gb716))
             replace BK716 := Aside0.mk (blk_below BK716.out hb)
             have NB722_785 := Aside0.mk ((mc237 : gb722 ≠ gb785))
             have NB785_722 := Aside0.mk ((mc238 : gb785 ≠ gb722))
             replace BK722 := Aside0.mk (blk_below BK722.out hb)
             have NB728_785 := Aside0.mk ((mc239 : gb728 ≠ gb785))
             have NB785_728 := Aside0.mk ((mc240 : gb785 ≠ gb728))
             replace BK728 := Aside0.mk (blk_below BK728.out hb)
             have NB738_785 := Aside0.mk ((by rw [hg]; exact Nat.ne_of_lt (blk_lt BK738.out) : gb738 ≠ gb785))
             have NB785_738 := Aside0.mk ((by rw [hg]; exact Nat.ne_of_gt (blk_lt BK738.out) : gb785 ≠ gb738))
             replace BK738 := Aside0.mk (blk_below BK738.out hb)
             clear hb hbox hg
             refine hK.out _ _ ⟨bc_ BK693 0 rfl, bc_ BK693 1 rfl, bc_ BK693 2 rfl, bc_ BK694 0 rfl, bc_ BK694 1 rfl, bc_ BK694 2 rfl⟩ (fun hHeld => ?_)
             clear hK K
             refine norm_ mc175 ?_
             exact norm_ mc85 (hJ1_3_10 (v769, v774, gb785) _ ⟨hHeld, mc222, mc223, mc204, mc205, mc206, mc207, BK693.out, BK694.out, BK716.out, BK722.out, BK728.out, BK738.out, BK785.out, GW785.out, GE785.out, NB693_785.out, NB785_693.out, NB694_785.out, NB785_694.out, NB716_785.out, NB785_716.out, NB722_785.out, NB785_722.out, NB728_785.out, NB785_728.out, NB738_785.out, NB785_738.out, mc50⟩)
           ·
            skip
            rintro ⟨v769, v774, gb785⟩ w208 ⟨hS_, h0_, h1_, h2_, h3_, h4_, h5_, h6_, h7_, h8_, h9_, h10_, h11_, h12_, h13_, h14_, h15_, h16_, h17_, h18_, h19_, h20_, h21_, h22_, h23_, h24_, h25_, h26_, h27_⟩
            try dsimp only at h0_ h1_ h2_ h3_ h4_ h5_ h6_ h7_ h8_ h9_ h10_ h11_ h12_ h13_ h14_ h15_ h16_ h17_ h18_ h19_ h20_ h21_ h22_ h23_ h24_ h25_ h26_ h27_
            have HO770 := Aside0.mk h0_
            have HO775 := Aside0.mk h1_
            replace HO_717002 := Aside0.mk h2_
            replace HO_723002 := Aside0.mk h3_
            replace HO_729002 := Aside0.mk h4_
            replace HO_739002 := Aside0.mk h5_
            replace BK693 := Aside0.mk h6_
            replace BK694 := Aside0.mk h7_
            replace BK716 := Aside0.mk h8_
            replace BK722 := Aside0.mk h9_
            replace BK728 := Aside0.mk h10_
            replace BK738 := Aside0.mk h11_
            have BK785 := Aside0.mk h12_
            have GW785 := Aside0.mk h13_
            have GE785 := Aside0.mk h14_
            have NB693_785 := Aside0.mk h15_
            have NB785_693 := Aside0.mk h16_
            have NB694_785 := Aside0.mk h17_
            have NB785_694 := Aside0.mk h18_
            have NB716_785 := Aside0.mk h19_
            have NB785_716 := Aside0.mk h20_
            have NB722_785 := Aside0.mk h21_
            have NB785_722 := Aside0.mk h22_
            have NB728_785 := Aside0.mk h23_
            have NB785_728 := Aside0.mk h24_
            have NB738_785 := Aside0.mk h25_
            have NB785_738 := Aside0.mk h26_
            replace HB := Aside0.mk h27_
            clear h0_ h1_ h2_ h3_ h4_ h5_ h6_ h7_ h8_ h9_ h10_ h11_ h12_ h13_ h14_ h15_ h16_ h17_ h18_ h19_ h20_ h21_ h22_ h23_ h24_ h25_ h26_ h27_
            have hHeld : w208.cell? ⟨gb693, 0, none⟩ = some (.int .i64 a0_0) ∧ w208.cell? ⟨gb693, 1, none⟩ = some (.int .i64 a0_1) ∧ w208.cell? ⟨gb693, 2, none⟩ = some (.slice A0_2 l0_2.length c0_2) ∧ w208.cell? ⟨gb694, 0, none⟩ = some (.int .i64 a1_0) ∧ w208.cell? ⟨gb694, 1, none⟩ = some (.int .i64 a1_1) ∧ w208.cell? ⟨gb694, 2, none⟩ = some (.slice A1_2 l1_2.length c1_2) := hS_
            refine norm_ (a' := ?_) ?_ ?_
            rotate_left
            ·
             simp only [putAll, Act.put, List.setIfInBounds_toArray, List.set_cons_zero, List.set_cons_succ]
             rfl
            refine one_ (i := 5) (N := some 119) #[true, true, true, true, true, true, false, false, false, false, true, false, false] rfl rfl (one_of HT_.out (by kernel_rfl)) (by decide) (fun K hK => ?_)
            refine goes_ Try.func23 (by kernel_rfl) rfl #[.slice A2 l2.length c2] (by rfl) rfl rfl mc173 ?_
            with_reducible refine (laws_toIntS.calls kj123 _ _ l2 t776 _ ?side1 ?side2 A192.out).mono ?_
            (case side1 => exact mc134)
            (case side2 => exact HC2.out)
            rintro e w209 ⟨v777, rfl, ho0, hb⟩
            refine ⟨_, rfl, ?_⟩
            have HO778 := Aside0.mk (Kd.R_lower (Kd.R_new' (Kd.R_new' (Kd.R_new' (Kd.R_new' (Kd.R_new' (Kd.R_new' ho0 (Kd.R_lt mc204)) (Kd.R_lt mc205)) (Kd.R_lt mc206)) (Kd.R_lt mc207)) (Kd.R_lt mc222)) (Kd.R_lt mc223)) (below_size mc50))
            replace HO_717002 := Aside0.mk (Kd.R_elder' mc204 (Kd.R_base ho0) hb)
            replace HO_723002 := Aside0.mk (Kd.R_elder' mc205 (Kd.R_base ho0) hb)
            replace HO_729002 := Aside0.mk (Kd.R_elder' mc206 (Kd.R_base ho0) hb)
            replace HO_739002 := Aside0.mk (Kd.R_elder' mc207 (Kd.R_base ho0) hb)
            replace HO770 := Aside0.mk (Kd.R_elder' mc222 (Kd.R_base ho0) hb)
            replace HO775 := Aside0.mk (Kd.R_elder' mc223 (Kd.R_base ho0) hb)
            replace BK693 := Aside0.mk (blk_below BK693.out hb)
            replace BK694 := Aside0.mk (blk_below BK694.out hb)
            replace BK716 := Aside0.mk (blk_below BK716.out hb)
            replace BK722 := Aside0.mk (blk_below BK722.out hb)
            replace BK728 := Aside0.mk (blk_below BK728.out hb)
            replace BK738 := Aside0.mk (blk_below BK738.out hb)
            replace BK785 := Aside0.mk (blk_below BK785.out hb)
            replace HB := Aside0.mk (below_step mc50 hb)
            (try clear hb)
            (try clear hb2)
            (try clear hk)
            (try clear hi)
            (try clear ho0)
            refine hK.out _ _ ⟨bc_ BK693 0 rfl, bc_ BK693 1 rfl, bc_ BK693 2 rfl, bc_ BK694 0 rfl, bc_ BK694 1 rfl, bc_ BK694 2 rfl⟩ (fun hHeld => ?_)
            clear hK K
            refine norm_ (by show Act.put _ (some 119) _ = _; simp only [Act.put, List.setIfInBounds_toArray, List.set_cons_zero, List.set_cons_succ, i64_w, i32_w]; rfl) ?_
            exact norm_ mc85 (hJ1_3_5_10 (v769, v774, v777, gb785) _ ⟨hHeld, mc93, mc94, mc92, mc87, mc88, mc89, mc90, BK693.out, BK694.out, BK716.out, BK722.out, BK728.out, BK738.out, BK785.out, GW785.out, GE785.out, NB693_785.out, NB785_693.out, NB694_785.out, NB785_694.out, NB716_785.out, NB785_716.out, NB722_785.out, NB785_722.out, NB728_785.out, NB785_728.out, NB738_785.out, NB785_738.out, mc50⟩)
          ·
           skip
           rintro ⟨v769, v774, v777⟩ w208 ⟨hS_, h0_, h1_, h2_, h3_, h4_, h5_, h6_, h7_, h8_, h9_, h10_, h11_, h12_, h13_⟩
           try dsimp only at h0_ h1_ h2_ h3_ h4_ h5_ h6_ h7_ h8_ h9_ h10_ h11_ h12_ h13_
           have HO770 := Aside0.mk h0_
           have HO775 := Aside0.mk h1_
           have HO778 := Aside0.mk h2_
           replace HO_717002 := Aside0.mk h3_
           replace HO_723002 := Aside0.mk h4_
           replace HO_729002 := Aside0.mk h5_
           replace HO_739002 := Aside0.mk h6_
           replace BK693 := Aside0.mk h7_
           replace BK694 := Aside0.mk h8_
           replace BK716 := Aside0.mk h9_
           replace BK722 := Aside0.mk h10_
           replace BK728 := Aside0.mk h11_
           replace BK738 := Aside0.mk h12_
           replace HB := Aside0.mk h13_
           clear h0_ h1_ h2_ h3_ h4_ h5_ h6_ h7_ h8_ h9_ h10_ h11_ h12_ h13_
           have hHeld : w208.cell? ⟨gb693, 0, none⟩ = some (.int .i64 a0_0) ∧ w208.cell? ⟨gb693, 1, none⟩ = some (.int .i64 a0_1) ∧ w208.cell? ⟨gb693, 2, none⟩ = some (.slice A0_2 l0_2.length c0_2) ∧ w208.cell? ⟨gb694, 0, none⟩ = some (.int .i64 a1_0) ∧ w208.cell? ⟨gb694, 1, none⟩ = some (.int .i64 a1_1) ∧ w208.cell? ⟨gb694, 2, none⟩ = some (.slice A1_2 l1_2.length c1_2) := hS_
           obtain ⟨Ao209, co209, eo209⟩ := Kd.R_slice HO770.out
           (first | subst eo209 | (injection eo209 with f1_ f2_ f3_; have f4_ := f1_.symm; have f5_ := f3_.symm; clear f1_ f2_ f3_; subst f4_; subst f5_))
           obtain ⟨Ao210, co210, eo210⟩ := Kd.R_slice HO775.out
           (first | subst eo210 | (injection eo210 with f1_ f2_ f3_; have f4_ := f1_.symm; have f5_ := f3_.symm; clear f1_ f2_ f3_; subst f4_; subst f5_))
           obtain ⟨Ao211, co211, eo211⟩ := Kd.R_slice HO778.out
           (first | subst eo211 | (injection eo211 with f1_ f2_ f3_; have f4_ := f1_.symm; have f5_ := f3_.symm; clear f1_ f2_ f3_; subst f4_; subst f5_))
           refine norm_ (a' := ?_) ?_ ?_
           rotate_left
           ·
            simp only [putAll, Act.put, List.setIfInBounds_toArray, List.set_cons_zero, List.set_cons_succ]
            rfl
           refine two_ (i := 6) (j := 10) (Ni := some 120) (Nj := some 18) #[true, true, true, true, true, true, true, false, false, false, false, false, false] #[true, true, true, true, true, true, false, false, false, false, true, false, false] rfl rfl rfl rfl (two_of HT_.out (by kernel_rfl)) (by decide) (by decide) (fun K hK => ?_) (fun K hK => ?_)
           ·
            skip
            refine goes_ Try.func31 (by kernel_rfl) rfl #[.agg #[.int .i64 t766, .int .i64 t767, .slice Ao209 t768.length co209], .agg #[.int .i64 t771, .int .i64 t772, .slice Ao210 t773.length co210], .slice Ao211 t776.length co211] (by rfl) rfl rfl mc173 ?_
            with_reducible refine (impl_CopyRegion.calls kj123 t766 t767 (fun k_ => some k_ = (.slice Ao209 t768.length co209 : Value).ownBlock) _ _ t768 t771 t772 (fun k_ => some k_ = (.slice Ao210 t773.length co210 : Value).ownBlock) _ _ t773 _ _ t776 t779 t780 t781 t784 _ ?side1 ?side2 ?side3 ?side4 A193.out).mono ?_
            (case side1 => exact Kd.R_V (Kd.R_tight rfl (Kd.R_types (Kd.R_types (Kd.R_types (Kd.R_types (Kd.R_types (Kd.R_types (HO770.out) BK693.out (by decide)) BK694.out (by decide)) BK716.out (by decide)) BK722.out (by decide)) BK728.out (by decide)) BK738.out (by decide))))
            (case side2 => exact Kd.R_V (Kd.R_tight rfl (Kd.R_types (Kd.R_types (Kd.R_types (Kd.R_types (Kd.R_types (Kd.R_types (HO775.out) BK693.out (by decide)) BK694.out (by decide)) BK716.out (by decide)) BK722.out (by decide)) BK728.out (by decide)) BK738.out (by decide))))
            (case side3 => repeat (first | exact (Kd.R_reads' HO778.out).2.2 | (with_reducible refine Kd.C_alloc ?_ _) | (with_reducible refine Kd.C_drewN ?_ _) | (with_reducible refine Kd.C_drew ?_)))
            (case side4 => exact (Kd.R_reads' HO778.out).2.1)
            rintro e w212 ⟨v782, rfl, ho0, hb⟩
            refine ⟨_, rfl, ?_⟩
            have HO783 := Aside0.mk (Kd.R_lower (Kd.R_new' (Kd.R_new' (Kd.R_new' (Kd.R_new' (Kd.R_new' (Kd.R_new' (Kd.R_new' (Kd.R_mono (ok' := fun k_ => True) ho0 (fun _ hk_ => trivial)) (Kd.R_lt mc204)) (Kd.R_lt mc205)) (Kd.R_lt mc206)) (Kd.R_lt mc207)) (Kd.R_lt mc222)) (Kd.R_lt mc223)) (Kd.R_lt mc224)) (below_size mc52))
            replace HO_717002 := Aside0.mk (Kd.R_elder' mc204 (Kd.R_base ho0) hb)
            replace HO_723002 := Aside0.mk (Kd.R_elder' mc205 (Kd.R_base ho0) hb)
            replace HO_729002 := Aside0.mk (Kd.R_elder' mc206 (Kd.R_base ho0) hb)
            replace HO_739002 := Aside0.mk (Kd.R_elder' mc207 (Kd.R_base ho0) hb)
            replace HO770 := Aside0.mk (Kd.R_elder' mc222 (Kd.R_base ho0) hb)
            replace HO775 := Aside0.mk (Kd.R_elder' mc223 (Kd.R_base ho0) hb)
            replace HO778 := Aside0.mk (Kd.R_elder' mc224 (Kd.R_base ho0) hb)
            replace BK693 := Aside0.mk (blk_below BK693.out hb)
            replace BK694 := Aside0.mk (blk_below BK694.out hb)
            replace BK716 := Aside0.mk (blk_below BK716.out hb)
            replace BK722 := Aside0.mk (blk_below BK722.out hb)
            replace BK728 := Aside0.mk (blk_below BK728.out hb)
            replace BK738 := Aside0.mk (blk_below BK738.out hb)
            replace HB := Aside0.mk (below_step mc52 hb)
            (try clear hb)
            (try clear hb2)
            (try clear hk)
            (try clear hi)
            (try clear ho0)
            refine hK.out _ _ ⟨bc_ BK693 0 rfl, bc_ BK693 1 rfl, bc_ BK693 2 rfl, bc_ BK694 0 rfl, bc_ BK694 1 rfl, bc_ BK694 2 rfl⟩ (fun hHeld => ?_)
            clear hK K
            refine norm_ (by show Act.put _ (some 120) _ = _; simp only [Act.put, List.setIfInBounds_toArray, List.set_cons_zero, List.set_cons_succ, i64_w, i32_w]; rfl) ?_
            refine pure_ (i := 7) (N := some 113) #[true, true, true, true, true, true, true, true, false, false, false, false, false] rfl rfl (any_of HT_.out (by kernel_rfl)) (fun _ _ _ h => h) (Or.inl ⟨by rfl, mc243⟩) mc208 ?_
            refine pure_ (i := 8) (N := some 121) #[true, true, true, true, true, true, true, true, true, false, false, false, false] rfl rfl (any_of HT_.out (by kernel_rfl)) (fun _ _ _ h => h) (Or.inl ⟨by rfl, mc243⟩) mc208 ?_
            refine pure_ (i := 9) (N := some 122) #[true, true, true, true, true, true, true, true, true, true, false, false, false] rfl rfl (any_of HT_.out (by kernel_rfl)) (fun _ _ _ h => h) (Or.inl ⟨by rfl, mc243⟩) mc208 ?_
            exact norm_ mc85 (hJ1_3_5_6 (.slice Ao209 t768.length co209, .slice Ao210 t773.length co210, .slice Ao211 t776.length co211, v782) _ ⟨hHeld, mc82, mc83, mc84, mc80, mc76, mc77, mc78, mc79, BK693.out, BK694.out, BK716.out, BK722.out, BK728.out, BK738.out, mc52⟩)
           ·
            skip
            refine box_step ?hg (N := 18) ?hd (cs := #[.int .i64 0, .int .i64 0, .slice none 0 0]) (t := 26) ?hr ?_; (case hd => rfl); (case hg => rfl); (case hr => exact mc242)
            intro gb785 hg w209 hbox hb
            replace HO_717002 := Aside0.mk (Kd.R_below mc204 hb)
            replace HO_723002 := Aside0.mk (Kd.R_below mc205 hb)
            replace HO_729002 := Aside0.mk (Kd.R_below mc206 hb)
            replace HO_739002 := Aside0.mk (Kd.R_below mc207 hb)
            replace HO770 := Aside0.mk (Kd.R_below mc222 hb)
            replace HO775 := Aside0.mk (Kd.R_below mc223 hb)
            replace HO778 := Aside0.mk (Kd.R_below mc224 hb)
            have BK785 := Aside0.mk (hbox)
            have GW785 := Aside0.mk ((mc49 : w.heap.size ≤ gb785))
            have GE785 := Aside0.mk ((mc49 : w.heap.size ≤ gb785))
            replace HB := Aside0.mk (below_step mc52 hb)
            have NB693_785 := Aside0.mk ((mc231 : gb693 ≠ gb785))
            have NB785_693 := Aside0.mk ((mc232 : gb785 ≠ gb693))
            replace BK693 := Aside0.mk (blk_below BK693.out hb)
            have NB694_785 := Aside0.mk ((mc233 : gb694 ≠ gb785))
            have NB785_694 := Aside0.mk ((mc234 : gb785 ≠ gb694))
            replace BK694 := Aside0.mk (blk_below BK694.out hb)
            have NB716_785 := Aside0.mk ((mc235 : gb716 ≠ gb785))
            have NB785_716 := Aside0.mk ((mc236 : gb785 ≠ gb716))
            replace BK716 := Aside0.mk (blk_below BK716.out hb)
            have NB722_785 := Aside0.mk ((mc237 : gb722 ≠ gb785))
            have NB785_722 := Aside0.mk ((mc238 : gb785 ≠ gb722))
            replace BK722 := Aside0.mk (blk_below BK722.out hb)
            have NB728_785 := Aside0.mk ((mc239 : gb728 ≠ gb785))
            have NB785_728 := Aside0.mk ((mc240 : gb785 ≠ gb728))
            replace BK728 := Aside0.mk (blk_below BK728.out hb)
            have NB738_785 := Aside0.mk ((by rw [hg]; exact Nat.ne_of_lt (blk_lt BK738.out) : gb738 ≠ gb785))
            have NB785_738 := Aside0.mk ((by rw [hg]; exact Nat.ne_of_gt (blk_lt BK738.out) : gb785 ≠ gb738))
            replace BK738 := Aside0.mk (blk_below BK738.out hb)
            clear hb hbox hg
            refine hK.out _ _ ⟨bc_ BK693 0 rfl, bc_ BK693 1 rfl, bc_ BK693 2 rfl, bc_ BK694 0 rfl, bc_ BK694 1 rfl, bc_ BK694 2 rfl⟩ (fun hHeld => ?_)
            clear hK K
            refine norm_ mc175 ?_
            exact norm_ mc85 (hJ1_3_5_10 (.slice Ao209 t768.length co209, .slice Ao210 t773.length co210, .slice Ao211 t776.length co211, gb785) _ ⟨hHeld, mc222, mc223, mc224, mc204, mc205, mc206, mc207, BK693.out, BK694.out, BK716.out, BK722.out, BK728.out, BK738.out, BK785.out, GW785.out, GE785.out, NB693_785.out, NB785_693.out, NB694_785.out, NB785_694.out, NB716_785.out, NB785_716.out, NB722_785.out, NB785_722.out, NB728_785.out, NB785_728.out, NB738_785.out, NB785_738.out, mc50⟩)
         ·
          skip
          rintro ⟨v769, v774, v777, gb785⟩ w209 ⟨hS_, h0_, h1_, h2_, h3_, h4_, h5_, h6_, h7_, h8_, h9_, h10_, h11_, h12_, h13_, h14_, h15_, h16_, h17_, h18_, h19_, h20_, h21_, h22_, h23_, h24_, h25_, h26_, h27_, h28_⟩
          try dsimp only at h0_ h1_ h2_ h3_ h4_ h5_ h6_ h7_ h8_ h9_ h10_ h11_ h12_ h13_ h14_ h15_ h16_ h17_ h18_ h19_ h20_ h21_ h22_ h23_ h24_ h25_ h26_ h27_ h28_
          have HO770 := Aside0.mk h0_
          have HO775 := Aside0.mk h1_
          have HO778 := Aside0.mk h2_
          replace HO_717002 := Aside0.mk h3_
          replace HO_723002 := Aside0.mk h4_
          replace HO_729002 := Aside0.mk h5_
          replace HO_739002 := Aside0.mk h6_
          replace BK693 := Aside0.mk h7_
          replace BK694 := Aside0.mk h8_
          replace BK716 := Aside0.mk h9_
          replace BK722 := Aside0.mk h10_
          replace BK728 := Aside0.mk h11_
          replace BK738 := Aside0.mk h12_
          have BK785 := Aside0.mk h13_
          have GW785 := Aside0.mk h14_
          have GE785 := Aside0.mk h15_
          have NB693_785 := Aside0.mk h16_
          have NB785_693 := Aside0.mk h17_
          have NB694_785 := Aside0.mk h18_
          have NB785_694 := Aside0.mk h19_
          have NB716_785 := Aside0.mk h20_
          have NB785_716 := Aside0.mk h21_
          have NB722_785 := Aside0.mk h22_
          have NB785_722 := Aside0.mk h23_
          have NB728_785 := Aside0.mk h24_
          have NB785_728 := Aside0.mk h25_
          have NB738_785 := Aside0.mk h26_
          have NB785_738 := Aside0.mk h27_
          replace HB := Aside0.mk h28_
          clear h0_ h1_ h2_ h3_ h4_ h5_ h6_ h7_ h8_ h9_ h10_ h11_ h12_ h13_ h14_ h15_ h16_ h17_ h18_ h19_ h20_ h21_ h22_ h23_ h24_ h25_ h26_ h27_ h28_
          have hHeld : w209.cell? ⟨gb693, 0, none⟩ = some (.int .i64 a0_0) ∧ w209.cell? ⟨gb693, 1, none⟩ = some (.int .i64 a0_1) ∧ w209.cell? ⟨gb693, 2, none⟩ = some (.slice A0_2 l0_2.length c0_2) ∧ w209.cell? ⟨gb694, 0, none⟩ = some (.int .i64 a1_0) ∧ w209.cell? ⟨gb694, 1, none⟩ = some (.int .i64 a1_1) ∧ w209.cell? ⟨gb694, 2, none⟩ = some (.slice A1_2 l1_2.length c1_2) := hS_
          obtain ⟨Ao210, co210, eo210⟩ := Kd.R_slice HO770.out
          (first | subst eo210 | (injection eo210 with f1_ f2_ f3_; have f4_ := f1_.symm; have f5_ := f3_.symm; clear f1_ f2_ f3_; subst f4_; subst f5_))
          obtain ⟨Ao211, co211, eo211⟩ := Kd.R_slice HO775.out
          (first | subst eo211 | (injection eo211 with f1_ f2_ f3_; have f4_ := f1_.symm; have f5_ := f3_.symm; clear f1_ f2_ f3_; subst f4_; subst f5_))
          obtain ⟨Ao212, co212, eo212⟩ := Kd.R_slice HO778.out
          (first | subst eo212 | (injection eo212 with f1_ f2_ f3_; have f4_ := f1_.symm; have f5_ := f3_.symm; clear f1_ f2_ f3_; subst f4_; subst f5_))
          refine norm_ (a' := ?_) ?_ ?_
          rotate_left
          ·
           simp only [putAll, Act.put, List.setIfInBounds_toArray, List.set_cons_zero, List.set_cons_succ]
           rfl
          refine one_ (i := 6) (N := some 120) #[true, true, true, true, true, true, true, false, false, false, true, false, false] rfl rfl (one_of HT_.out (by kernel_rfl)) (by decide) (fun K hK => ?_)
          refine goes_ Try.func31 (by kernel_rfl) rfl #[.agg #[.int .i64 t766, .int .i64 t767, .slice Ao210 t768.length co210], .agg #[.int .i64 t771, .int .i64 t772, .slice Ao211 t773.length co211], .slice Ao212 t776.length co212] (by rfl) rfl rfl mc173 ?_
          with_reducible refine (impl_CopyRegion.calls kj123 t766 t767 (fun k_ => some k_ = (.slice Ao210 t768.length co210 : Value).ownBlock) _ _ t768 t771 t772 (fun k_ => some k_ = (.slice Ao211 t773.length co211 : Value).ownBlock) _ _ t773 _ _ t776 t779 t780 t781 t784 _ ?side1 ?side2 ?side3 ?side4 A193.out).mono ?_
          (case side1 => exact Kd.R_V (Kd.R_tight rfl (Kd.R_types (Kd.R_types (Kd.R_types (Kd.R_types (Kd.R_types (Kd.R_types (Kd.R_types (HO770.out) BK693.out (by decide)) BK694.out (by decide)) BK716.out (by decide)) BK722.out (by decide)) BK728.out (by decide)) BK738.out (by decide)) BK785.out (by decide))))
          (case side2 => exact Kd.R_V (Kd.R_tight rfl (Kd.R_types (Kd.R_types (Kd.R_types (Kd.R_types (Kd.R_types (Kd.R_types (Kd.R_types (HO775.out) BK693.out (by decide)) BK694.out (by decide)) BK716.out (by decide)) BK722.out (by decide)) BK728.out (by decide)) BK738.out (by decide)) BK785.out (by decide))))
          (case side3 => repeat (first | exact (Kd.R_reads' HO778.out).2.2 | (with_reducible refine Kd.C_alloc ?_ _) | (with_reducible refine Kd.C_drewN ?_ _) | (with_reducible refine Kd.C_drew ?_)))
          (case side4 => exact (Kd.R_reads' HO778.out).2.1)
          rintro e w213 ⟨v782, rfl, ho0, hb⟩
          refine ⟨_, rfl, ?_⟩
          have HO783 := Aside0.mk (Kd.R_lower (Kd.R_new' (Kd.R_new' (Kd.R_new' (Kd.R_new' (Kd.R_new' (Kd.R_new' (Kd.R_new' (Kd.R_mono (ok' := fun k_ => True) ho0 (fun _ hk_ => trivial)) (Kd.R_lt mc204)) (Kd.R_lt mc205)) (Kd.R_lt mc206)) (Kd.R_lt mc207)) (Kd.R_lt mc222)) (Kd.R_lt mc223)) (Kd.R_lt mc224)) (below_size mc50))
          replace HO_717002 := Aside0.mk (Kd.R_elder' mc204 (Kd.R_base ho0) hb)
          replace HO_723002 := Aside0.mk (Kd.R_elder' mc205 (Kd.R_base ho0) hb)
          replace HO_729002 := Aside0.mk (Kd.R_elder' mc206 (Kd.R_base ho0) hb)
          replace HO_739002 := Aside0.mk (Kd.R_elder' mc207 (Kd.R_base ho0) hb)
          replace HO770 := Aside0.mk (Kd.R_elder' mc222 (Kd.R_base ho0) hb)
          replace HO775 := Aside0.mk (Kd.R_elder' mc223 (Kd.R_base ho0) hb)
          replace HO778 := Aside0.mk (Kd.R_elder' mc224 (Kd.R_base ho0) hb)
          replace BK693 := Aside0.mk (blk_below BK693.out hb)
          replace BK694 := Aside0.mk (blk_below BK694.out hb)
          replace BK716 := Aside0.mk (blk_below BK716.out hb)
          replace BK722 := Aside0.mk (blk_below BK722.out hb)
          replace BK728 := Aside0.mk (blk_below BK728.out hb)
          replace BK738 := Aside0.mk (blk_below BK738.out hb)
          replace BK785 := Aside0.mk (blk_below BK785.out hb)
          replace HB := Aside0.mk (below_step mc50 hb)
          (try clear hb)
          (try clear hb2)
          (try clear hk)
          (try clear hi)
          (try clear ho0)
          refine hK.out _ _ ⟨bc_ BK693 0 rfl, bc_ BK693 1 rfl, bc_ BK693 2 rfl, bc_ BK694 0 rfl, bc_ BK694 1 rfl, bc_ BK694 2 rfl⟩ (fun hHeld => ?_)
          clear hK K
          refine norm_ (by show Act.put _ (some 120) _ = _; simp only [Act.put, List.setIfInBounds_toArray, List.set_cons_zero, List.set_cons_succ, i64_w, i32_w]; rfl) ?_
          refine pure_ (i := 7) (N := some 113) #[true, true, true, true, true, true, true, true, false, false, true, false, false] rfl rfl (any_of HT_.out (by kernel_rfl)) (fun _ _ _ h => h) (Or.inl ⟨by rfl, mc243⟩) mc208 ?_
          refine pure_ (i := 8) (N := some 121) #[true, true, true, true, true, true, true, true, true, false, true, false, false] rfl rfl (any_of HT_.out (by kernel_rfl)) (fun _ _ _ h => h) (Or.inl ⟨by rfl, mc243⟩) mc208 ?_
          refine pure_ (i := 9) (N := some 122) #[true, true, true, true, true, true, true, true, true, true, true, false, false] rfl rfl (any_of HT_.out (by kernel_rfl)) (fun _ _ _ h => h) (Or.inl ⟨by rfl, mc243⟩) mc208 ?_
          exact norm_ mc85 (hJ1_3_5_6_10 (.slice Ao210 t768.length co210, .slice Ao211 t773.length co211, .slice Ao212 t776.length co212, v782, gb785) _ ⟨hHeld, mc82, mc83, mc84, mc80, mc76, mc77, mc78, mc79, BK693.out, BK694.out, BK716.out, BK722.out, BK728.out, BK738.out, BK785.out, GW785.out, GE785.out, NB693_785.out, NB785_693.out, NB694_785.out, NB785_694.out, NB716_785.out, NB785_716.out, NB722_785.out, NB785_722.out, NB728_785.out, NB785_728.out, NB738_785.out, NB785_738.out, mc50⟩)
        ·
         skip
         rintro ⟨v769, v774, v777, v782⟩ w212 ⟨hS_, h0_, h1_, h2_, h3_, h4_, h5_, h6_, h7_, h8_, h9_, h10_, h11_, h12_, h13_, h14_⟩
         try dsimp only at h0_ h1_ h2_ h3_ h4_ h5_ h6_ h7_ h8_ h9_ h10_ h11_ h12_ h13_ h14_
         have HO770 := Aside0.mk h0_
         have HO775 := Aside0.mk h1_
         have HO778 := Aside0.mk h2_
         have HO783 := Aside0.mk h3_
         replace HO_717002 := Aside0.mk h4_
         replace HO_723002 := Aside0.mk h5_
         replace HO_729002 := Aside0.mk h6_
         replace HO_739002 := Aside0.mk h7_
         replace BK693 := Aside0.mk h8_
         replace BK694 := Aside0.mk h9_
         replace BK716 := Aside0.mk h10_
         replace BK722 := Aside0.mk h11_
         replace BK728 := Aside0.mk h12_
         replace BK738 := Aside0.mk h13_
         replace HB := Aside0.mk h14_
         clear h0_ h1_ h2_ h3_ h4_ h5_ h6_ h7_ h8_ h9_ h10_ h11_ h12_ h13_ h14_
         have hHeld : w212.cell? ⟨gb693, 0, none⟩ = some (.int .i64 a0_0) ∧ w212.cell? ⟨gb693, 1, none⟩ = some (.int .i64 a0_1) ∧ w212.cell? ⟨gb693, 2, none⟩ = some (.slice A0_2 l0_2.length c0_2) ∧ w212.cell? ⟨gb694, 0, none⟩ = some (.int .i64 a1_0) ∧ w212.cell? ⟨gb694, 1, none⟩ = some (.int .i64 a1_1) ∧ w212.cell? ⟨gb694, 2, none⟩ = some (.slice A1_2 l1_2.length c1_2) := hS_
         refine norm_ (a' := ?_) ?_ ?_
         rotate_left
         ·
          simp only [putAll, Act.put, List.setIfInBounds_toArray, List.set_cons_zero, List.set_cons_succ]
          rfl
         refine one_ (i := 10) (N := some 18) #[true, true, true, true, true, true, true, true, true, true, true, false, false] rfl rfl (one_of HT_.out (by kernel_rfl)) (by decide) (fun K hK => ?_)
         refine box_step ?hg (N := 18) ?hd (cs := #[.int .i64 0, .int .i64 0, .slice none 0 0]) (t := 26) ?hr ?_; (case hd => rfl); (case hg => rfl); (case hr => exact mc242)
         intro gb785 hg w213 hbox hb
         replace HO_717002 := Aside0.mk (Kd.R_below mc204 hb)
         replace HO_723002 := Aside0.mk (Kd.R_below mc205 hb)
         replace HO_729002 := Aside0.mk (Kd.R_below mc206 hb)
         replace HO_739002 := Aside0.mk (Kd.R_below mc207 hb)
         replace HO770 := Aside0.mk (Kd.R_below mc222 hb)
         replace HO775 := Aside0.mk (Kd.R_below mc223 hb)
         replace HO778 := Aside0.mk (Kd.R_below mc224 hb)
         replace HO783 := Aside0.mk (Kd.R_below (by (with_reducible repeat (first | apply Kd.R_alloc | apply Kd.R_drewN | apply Kd.R_drew)); exact HO783.out) hb)
         have BK785 := Aside0.mk (hbox)
         have GW785 := Aside0.mk ((mc49 : w.heap.size ≤ gb785))
         have GE785 := Aside0.mk ((mc49 : w.heap.size ≤ gb785))
         replace HB := Aside0.mk (below_step mc52 hb)
         have NB693_785 := Aside0.mk ((mc231 : gb693 ≠ gb785))
         have NB785_693 := Aside0.mk ((mc232 : gb785 ≠ gb693))
         replace BK693 := Aside0.mk (blk_below BK693.out hb)
         have NB694_785 := Aside0.mk ((mc233 : gb694 ≠ gb785))
         have NB785_694 := Aside0.mk ((mc234 : gb785 ≠ gb694))
         replace BK694 := Aside0.mk (blk_below BK694.out hb)
         have NB716_785 := Aside0.mk ((mc235 : gb716 ≠ gb785))
         have NB785_716 := Aside0.mk ((mc236 : gb785 ≠ gb716))
         replace BK716 := Aside0.mk (blk_below BK716.out hb)
         have NB722_785 := Aside0.mk ((mc237 : gb722 ≠ gb785))
         have NB785_722 := Aside0.mk ((mc238 : gb785 ≠ gb722))
         replace BK722 := Aside0.mk (blk_below BK722.out hb)
         have NB728_785 := Aside0.mk ((mc239 : gb728 ≠ gb785))
         have NB785_728 := Aside0.mk ((mc240 : gb785 ≠ gb728))
         replace BK728 := Aside0.mk (blk_below BK728.out hb)
         have NB738_785 := Aside0.mk ((by rw [hg]; exact Nat.ne_of_lt (blk_lt BK738.out) : gb738 ≠ gb785))
         have NB785_738 := Aside0.mk ((by rw [hg]; exact Nat.ne_of_gt (blk_lt BK738.out) : gb785 ≠ gb738))
         replace BK738 := Aside0.mk (blk_below BK738.out hb)
         clear hb hbox hg
         refine hK.out _ _ ⟨bc_ BK693 0 rfl, bc_ BK693 1 rfl, bc_ BK693 2 rfl, bc_ BK694 0 rfl, bc_ BK694 1 rfl, bc_ BK694 2 rfl⟩ (fun hHeld => ?_)
         clear hK K
         refine norm_ mc175 ?_
         exact norm_ mc85 (hJ1_3_5_6_10 (v769, v774, v777, v782, gb785) _ ⟨hHeld, mc222, mc223, mc224, (by (with_reducible repeat (first | apply Kd.R_alloc | apply Kd.R_drewN | apply Kd.R_drew)); exact HO783.out), mc204, mc205, mc206, mc207, BK693.out, BK694.out, BK716.out, BK722.out, BK728.out, BK738.out, BK785.out, GW785.out, GE785.out, NB693_785.out, NB785_693.out, NB694_785.out, NB785_694.out, NB716_785.out, NB785_716.out, NB722_785.out, NB785_722.out, NB728_785.out, NB785_728.out, NB738_785.out, NB785_738.out, mc50⟩)
       rintro ⟨v769, v774, v777, v782, gb785⟩ w213 ⟨hS_, h0_, h1_, h2_, h3_, h4_, h5_, h6_, h7_, h8_, h9_, h10_, h11_, h12_, h13_, h14_, h15_, h16_, h17_, h18_, h19_, h20_, h21_, h22_, h23_, h24_, h25_, h26_, h27_, h28_, h29_⟩
       try dsimp only at h0_ h1_ h2_ h3_ h4_ h5_ h6_ h7_ h8_ h9_ h10_ h11_ h12_ h13_ h14_ h15_ h16_ h17_ h18_ h19_ h20_ h21_ h22_ h23_ h24_ h25_ h26_ h27_ h28_ h29_
       have HO770 := Aside0.mk h0_
       have HO775 := Aside0.mk h1_
       have HO778 := Aside0.mk h2_
       have HO783 := Aside0.mk h3_
       replace HO_717002 := Aside0.mk h4_
       replace HO_723002 := Aside0.mk h5_
       replace HO_729002 := Aside0.mk h6_
       replace HO_739002 := Aside0.mk h7_
       replace BK693 := Aside0.mk h8_
       replace BK694 := Aside0.mk h9_
       replace BK716 := Aside0.mk h10_
       replace BK722 := Aside0.mk h11_
       replace BK728 := Aside0.mk h12_
       replace BK738 := Aside0.mk h13_
       have BK785 := Aside0.mk h14_
       have GW785 := Aside0.mk h15_
       have GE785 := Aside0.mk h16_
       have NB693_785 := Aside0.mk h17_
       have NB785_693 := Aside0.mk h18_
       have NB694_785 := Aside0.mk h19_
       have NB785_694 := Aside0.mk h20_
       have NB716_785 := Aside0.mk h21_
       have NB785_716 := Aside0.mk h22_
       have NB722_785 := Aside0.mk h23_
       have NB785_722 := Aside0.mk h24_
       have NB728_785 := Aside0.mk h25_
       have NB785_728 := Aside0.mk h26_
       have NB738_785 := Aside0.mk h27_
       have NB785_738 := Aside0.mk h28_
       replace HB := Aside0.mk h29_
       clear h0_ h1_ h2_ h3_ h4_ h5_ h6_ h7_ h8_ h9_ h10_ h11_ h12_ h13_ h14_ h15_ h16_ h17_ h18_ h19_ h20_ h21_ h22_ h23_ h24_ h25_ h26_ h27_ h28_ h29_
       have hHeld : w213.cell? ⟨gb693, 0, none⟩ = some (.int .i64 a0_0) ∧ w213.cell? ⟨gb693, 1, none⟩ = some (.int .i64 a0_1) ∧ w213.cell? ⟨gb693, 2, none⟩ = some (.slice A0_2 l0_2.length c0_2) ∧ w213.cell? ⟨gb694, 0, none⟩ = some (.int .i64 a1_0) ∧ w213.cell? ⟨gb694, 1, none⟩ = some (.int .i64 a1_1) ∧ w213.cell? ⟨gb694, 2, none⟩ = some (.slice A1_2 l1_2.length c1_2) := hS_
       obtain ⟨Ao216, co216, eo216⟩ := Kd.R_slice HO783.out
       (first | subst eo216 | (injection eo216 with f1_ f2_ f3_; have f4_ := f1_.symm; have f5_ := f3_.symm; clear f1_ f2_ f3_; subst f4_; subst f5_))
       refine norm_ (a' := ?_) ?_ ?_
       rotate_left
       ·
        simp only [putAll, Act.put, List.setIfInBounds_toArray, List.set_cons_zero, List.set_cons_succ]
        rfl
       refine one_ (i := 11) (N := none) #[true, true, true, true, true, true, true, true, true, true, true, true, false] rfl rfl (one_of HT_.out (by kernel_rfl)) (by decide) (fun K hK => ?_)
       have hs214 : w213.cell? ⟨gb785, 0, none⟩ = some (.int .i64 0) := bc_ BK785 0 rfl
       have hfs214 := blk_frozen BK785.out 0
       have hns214_0 := NB693_785.out
       have hns214_1 := NB694_785.out
       have hns214_2 := NB716_785.out
       have hns214_3 := NB722_785.out
       have hns214_4 := NB728_785.out
       have hns214_5 := NB738_785.out
       have hms214_0 := NB785_693.out
       have hms214_1 := NB785_694.out
       have hms214_2 := NB785_716.out
       have hms214_3 := NB785_722.out
       have hms214_4 := NB785_728.out
       have hms214_5 := NB785_738.out
       have hs215 : w213.cell? ⟨gb785, 1, none⟩ = some (.int .i64 0) := bc_ BK785 1 rfl
       have hfs215 := blk_frozen BK785.out 1
       have hns215_0 := NB693_785.out
       have hns215_1 := NB694_785.out
       have hns215_2 := NB716_785.out
       have hns215_3 := NB722_785.out
       have hns215_4 := NB728_785.out
       have hns215_5 := NB738_785.out
       have hms215_0 := NB785_693.out
       have hms215_1 := NB785_694.out
       have hms215_2 := NB785_716.out
       have hms215_3 := NB785_722.out
       have hms215_4 := NB785_728.out
       have hms215_5 := NB785_738.out
       have hs217 : w213.cell? ⟨gb785, 2, none⟩ = some (.slice none 0 0) := bc_ BK785 2 rfl
       have hfs217 := blk_frozen BK785.out 2
       have hns217_0 := NB693_785.out
       have hns217_1 := NB694_785.out
       have hns217_2 := NB716_785.out
       have hns217_3 := NB722_785.out
       have hns217_4 := NB728_785.out
       have hns217_5 := NB738_785.out
       have hms217_0 := NB785_693.out
       have hms217_1 := NB785_694.out
       have hms217_2 := NB785_716.out
       have hms217_3 := NB785_722.out
       have hms217_4 := NB785_728.out
       have hms217_5 := NB785_738.out
       refine skip_ (w1 := ?_) (by rfl) rfl ?_ ?_
       rotate_left
       ·
        go_simp
        rfl
       refine hK.out _ _ ⟨((cell_far (p := ⟨gb785, _, none⟩) NB693_785.out _).trans (((cell_far (p := ⟨gb785, _, none⟩) NB693_785.out _).trans (((cell_far (p := ⟨gb785, _, none⟩) NB693_785.out _).trans (hHeld.1)))))), ((cell_far (p := ⟨gb785, _, none⟩) NB693_785.out _).trans (((cell_far (p := ⟨gb785, _, none⟩) NB693_785.out _).trans (((cell_far (p := ⟨gb785, _, none⟩) NB693_785.out _).trans (hHeld.2.1)))))), ((cell_far (p := ⟨gb785, _, none⟩) NB693_785.out _).trans (((cell_far (p := ⟨gb785, _, none⟩) NB693_785.out _).trans (((cell_far (p := ⟨gb785, _, none⟩) NB693_785.out _).trans (hHeld.2.2.1)))))), ((cell_far (p := ⟨gb785, _, none⟩) NB694_785.out _).trans (((cell_far (p := ⟨gb785, _, none⟩) NB694_785.out _).trans (((cell_far (p := ⟨gb785, _, none⟩) NB694_785.out _).trans (hHeld.2.2.2.1)))))), ((cell_far (p := ⟨gb785, _, none⟩) NB694_785.out _).trans (((cell_far (p := ⟨gb785, _, none⟩) NB694_785.out _).trans (((cell_far (p := ⟨gb785, _, none⟩) NB694_785.out _).trans (hHeld.2.2.2.2.1)))))), ((cell_far (p := ⟨gb785, _, none⟩) NB694_785.out _).trans (((cell_far (p := ⟨gb785, _, none⟩) NB694_785.out _).trans (((cell_far (p := ⟨gb785, _, none⟩) NB694_785.out _).trans (hHeld.2.2.2.2.2))))))⟩ (fun hHeld => ?_)
       clear hK K
       refine pure_ (i := 12) (N := some 19) #[true, true, true, true, true, true, true, true, true, true, true, true, true] rfl rfl (any_of HT_.out (by kernel_rfl)) (fun _ _ _ h => h) (Or.inl ⟨by rfl, mc243⟩) mc208 ?_
       refine done_ (done_of HT_.out (by kernel_rfl)) ?_
       go_upto_region 38 with (fail)
       go_cut [131] (fun v131 wc => ∃ (kq : Nat) (x131_193 : Bool), v131 = .bool x131_193 ∧ Aside0 (laws_FnExactCopyRegion.j2 kq t763 x131_193 t732 t733 t764 = some r) ∧ Aside0 (kq ≤ kj123) ∧ Aside0 (Kd.R (Kd.int .i64) 3 wc w.heap.size (fun k_ => some k_ ≠ ((.slice Ao61 t757.length co61) : Value).ownBlock ∧ some k_ ≠ ((.slice Ao71 t759.length co71) : Value).ownBlock ∧ some k_ ≠ ((.slice Ao84 t734.length co84) : Value).ownBlock ∧ some k_ ≠ ((.slice Ao216 t781.length co216) : Value).ownBlock) (.slice Ao51 t712.length co51) t712) ∧ Aside0 (Kd.R (Kd.int .i64) 3 wc w.heap.size (fun k_ => some k_ ≠ ((.slice Ao51 t712.length co51) : Value).ownBlock ∧ some k_ ≠ ((.slice Ao71 t759.length co71) : Value).ownBlock ∧ some k_ ≠ ((.slice Ao84 t734.length co84) : Value).ownBlock ∧ some k_ ≠ ((.slice Ao216 t781.length co216) : Value).ownBlock) (.slice Ao61 t757.length co61) t757) ∧ Aside0 (Kd.R (Kd.int .i64) 3 wc w.heap.size (fun k_ => some k_ ≠ ((.slice Ao51 t712.length co51) : Value).ownBlock ∧ some k_ ≠ ((.slice Ao61 t757.length co61) : Value).ownBlock ∧ some k_ ≠ ((.slice Ao84 t734.length co84) : Value).ownBlock ∧ some k_ ≠ ((.slice Ao216 t781.length co216) : Value).ownBlock) (.slice Ao71 t759.length co71) t759) ∧ Aside0 (Kd.R (Kd.int .i64) 3 wc w.heap.size (fun k_ => some k_ ≠ ((.slice Ao51 t712.length co51) : Value).ownBlock ∧ some k_ ≠ ((.slice Ao61 t757.length co61) : Value).ownBlock ∧ some k_ ≠ ((.slice Ao71 t759.length co71) : Value).ownBlock ∧ some k_ ≠ ((.slice Ao216 t781.length co216) : Value).ownBlock) (.slice Ao84 t734.length co84) t764) ∧ Aside0 (Kd.R (Kd.int .i64) 3 wc w.heap.size (fun k_ => some k_ ≠ ((.slice Ao51 t712.length co51) : Value).ownBlock ∧ some k_ ≠ ((.slice Ao61 t757.length co61) : Value).ownBlock ∧ some k_ ≠ ((.slice Ao71 t759.length co71) : Value).ownBlock ∧ some k_ ≠ ((.slice Ao84 t734.length co84) : Value).ownBlock) (.slice Ao216 t781.length co216) t781) ∧ Aside0 (wc.heap[gb693]? = some (.cells #[.int .i64 a0_0, .int .i64 a0_1, (.slice A0_2 l0_2.length c0_2)] 36 (0, 0))) ∧ Aside0 (wc.heap[gb694]? = some (.cells #[.int .i64 a1_0, .int .i64 a1_1, (.slice A1_2 l1_2.length c1_2)] 36 (0, 0))) ∧ Aside0 (wc.heap[gb716]? = some (.cells #[.int .i64 t710, .int .i64 t711, (.slice Ao51 t712.length co51)] 26 (0, 0))) ∧ Aside0 (wc.heap[gb722]? = some (.cells #[.int .i64 t717, .int .i64 t718, (.slice Ao61 t757.length co61)] 26 (0, 0))) ∧ Aside0 (wc.heap[gb728]? = some (.cells #[.int .i64 t723, .int .i64 t724, (.slice Ao71 t759.length co71)] 26 (0, 0))) ∧ Aside0 (wc.heap[gb738]? = some (.cells #[.int .i64 t732, .int .i64 t733, (.slice Ao84 t734.length co84)] 26 (0, 0))) ∧ Aside0 (wc.heap[gb785]? = some (.cells #[.int .i64 t779, .int .i64 t780, (.slice Ao216 t781.length co216)] 26 (0, 0))) ∧ Aside0 (Below w.heap.size w wc))
       case first =>
        as_aux_lemma =>
         have H := HC194.out
         clear HC194
         obtain ⟨t786, A2180, H⟩ := oB_ H
         have A218 := Aside0.mk A2180
         clear A2180
         by_cases c219 : t786 = true
         ·
          subst c219
          rw [if_pos rfl] at H
          have H' := Aside0.mk H
          clear H
          have hnb220 := NB785_693.out
          have hnc220 := NB693_785.out
          have hnb221 := NB785_694.out
          have hnc221 := NB694_785.out
          have hnb222 := NB785_716.out
          have hnc222 := NB716_785.out
          have hnb223 := NB785_722.out
          have hnc223 := NB722_785.out
          have hnb224 := NB785_728.out
          have hnc224 := NB728_785.out
          have hnb225 := NB785_738.out
          have hnc225 := NB738_785.out
          have hcz226_0 : w213.cell? ⟨gb785, 0, none⟩ = some (.int .i64 0) := bc_ BK785 0 rfl
          have hcz226_1 : w213.cell? ⟨gb785, 1, none⟩ = some (.int .i64 0) := bc_ BK785 1 rfl
          have hcz226_2 : w213.cell? ⟨gb785, 2, none⟩ = some (.slice none 0 0) := bc_ BK785 2 rfl
          have hfz226_0 := blk_frozen BK785.out 0
          have hfz226_1 := blk_frozen BK785.out 1
          have hfz226_2 := blk_frozen BK785.out 2
          have hnb227 := NB716_693.out
          have hnc227 := NB693_716.out
          have hnb228 := NB716_694.out
          have hnc228 := NB694_716.out
          have hnb229 := NB716_722.out
          have hnc229 := NB722_716.out
          have hnb230 := NB716_728.out
          have hnc230 := NB728_716.out
          have hnb231 := NB716_738.out
          have hnc231 := NB738_716.out
          have hcz232_0 : w213.cell? ⟨gb716, 0, none⟩ = some (.int .i64 t710) := bc_ BK716 0 rfl
          have hcz232_1 : w213.cell? ⟨gb716, 1, none⟩ = some (.int .i64 t711) := bc_ BK716 1 rfl
          have hcz232_2 : w213.cell? ⟨gb716, 2, none⟩ = some (.slice Ao51 t712.length co51) := bc_ BK716 2 rfl
          have hfz232_0 := blk_frozen BK716.out 0
          have hfz232_1 := blk_frozen BK716.out 1
          have hfz232_2 := blk_frozen BK716.out 2
          go_wp2_with (first | ((with_reducible refine gate_callee (f := 25) rfl ?_); refine goesL_ (some 125) rfl rfl Try.func25 (by kernel_rfl) rfl #[.agg #[.int .i64 t779, .int .i64 t780, .slice Ao216 t781.length co216], .agg #[.int .i64 t710, .int .i64 t711, .slice Ao51 t712.length co51]] rfl mc173 ?_; (with_reducible refine (laws_eqField.calls kj123 t779 t780 _ _ t781 t710 t711 _ _ t712 true _ ?side1 ?side2 ?side3 ?side4 A218.out).mono ?_); (case side1 => exact mc2); (case side2 => exact (Kd.R_reads' HO783.out).2.1); (case side3 => exact mc1); (case side4 => exact (Kd.R_reads' HO_717002.out).2.1); rintro e w233 ⟨rfl, hb⟩; refine ⟨_, rfl, ?_⟩; replace HO_717002 := Aside0.mk (Kd.R_below mc18 hb); replace HO_723002 := Aside0.mk (Kd.R_below mc19 hb); replace HO_729002 := Aside0.mk (Kd.R_below mc20 hb); replace HO_739002 := Aside0.mk (Kd.R_below mc21 hb); replace HO770 := Aside0.mk (Kd.R_below mc23 hb); replace HO775 := Aside0.mk (Kd.R_below mc24 hb); replace HO778 := Aside0.mk (Kd.R_below mc25 hb); replace HO783 := Aside0.mk (Kd.R_below mc22 hb); replace BK693 := Aside0.mk (blk_below (g := gb693) (o := .cells #[.int .i64 a0_0, .int .i64 a0_1, .slice A0_2 l0_2.length c0_2] 36 (0, 0)) mc12 hb); replace BK694 := Aside0.mk (blk_below (g := gb694) (o := .cells #[.int .i64 a1_0, .int .i64 a1_1, .slice A1_2 l1_2.length c1_2] 36 (0, 0)) mc13 hb); replace BK716 := Aside0.mk (blk_below (g := gb716) (o := .cells #[.int .i64 t710, .int .i64 t711, .slice Ao51 t712.length co51] 26 (0, 0)) mc14 hb); replace BK722 := Aside0.mk (blk_below (g := gb722) (o := .cells #[.int .i64 t717, .int .i64 t718, .slice Ao61 t757.length co61] 26 (0, 0)) mc15 hb); replace BK728 := Aside0.mk (blk_below (g := gb728) (o := .cells #[.int .i64 t723, .int .i64 t724, .slice Ao71 t759.length co71] 26 (0, 0)) mc16 hb); replace BK738 := Aside0.mk (blk_below (g := gb738) (o := .cells #[.int .i64 t732, .int .i64 t733, .slice Ao84 t734.length co84] 26 (0, 0)) mc17 hb); replace BK785 := Aside0.mk (blk_below (g := gb785) (o := .cells #[.int .i64 t779, .int .i64 t780, .slice Ao216 t781.length co216] 26 (0, 0)) mc6 hb); replace HB := Aside0.mk (below_step mc50 hb); (try clear hb); (try clear hk)))
          go_meet
          case rel => exact ⟨_, ((t784 != t715)), mc241, H', ⟨by have := HJ30.out; have := HJ123.out; first | omega | exact Nat.le_refl _⟩, ⟨mc60⟩, ⟨mc61⟩, ⟨mc62⟩, ⟨mc63⟩, ⟨mc64⟩, ⟨mc123⟩, ⟨mc124⟩, ⟨mc125⟩, ⟨mc126⟩, ⟨mc127⟩, ⟨mc128⟩, ⟨mc129⟩, ⟨mc50⟩⟩
         replace c219 := Bool.eq_false_iff.mpr c219
         subst c219
         rw [if_neg (show ¬ (false = true) by decide)] at H
         have H' := Aside0.mk H
         clear H
         have hnb234 := NB785_693.out
         have hnc234 := NB693_785.out
         have hnb235 := NB785_694.out
         have hnc235 := NB694_785.out
         have hnb236 := NB785_716.out
         have hnc236 := NB716_785.out
         have hnb237 := NB785_722.out
         have hnc237 := NB722_785.out
         have hnb238 := NB785_728.out
         have hnc238 := NB728_785.out
         have hnb239 := NB785_738.out
         have hnc239 := NB738_785.out
         have hcz240_0 : w213.cell? ⟨gb785, 0, none⟩ = some (.int .i64 0) := bc_ BK785 0 rfl
         have hcz240_1 : w213.cell? ⟨gb785, 1, none⟩ = some (.int .i64 0) := bc_ BK785 1 rfl
         have hcz240_2 : w213.cell? ⟨gb785, 2, none⟩ = some (.slice none 0 0) := bc_ BK785 2 rfl
         have hfz240_0 := blk_frozen BK785.out 0
         have hfz240_1 := blk_frozen BK785.out 1
         have hfz240_2 := blk_frozen BK785.out 2
         have hnb241 := NB716_693.out
         have hnc241 := NB693_716.out
         have hnb242 := NB716_694.out
         have hnc242 := NB694_716.out
         have hnb243 := NB716_722.out
         have hnc243 := NB722_716.out
         have hnb244 := NB716_728.out
         have hnc244 := NB728_716.out
         have hnb245 := NB716_738.out
         have hnc245 := NB738_716.out
         have hcz246_0 : w213.cell? ⟨gb716, 0, none⟩ = some (.int .i64 t710) := bc_ BK716 0 rfl
         have hcz246_1 : w213.cell? ⟨gb716, 1, none⟩ = some (.int .i64 t711) := bc_ BK716 1 rfl
         have hcz246_2 : w213.cell? ⟨gb716, 2, none⟩ = some (.slice Ao51 t712.length co51) := bc_ BK716 2 rfl
         have hfz246_0 := blk_frozen BK716.out 0
         have hfz246_1 := blk_frozen BK716.out 1
         have hfz246_2 := blk_frozen BK716.out 2
         go_wp2_with (first | ((with_reducible refine gate_callee (f := 25) rfl ?_); refine goesL_ (some 125) rfl rfl Try.func25 (by kernel_rfl) rfl #[.agg #[.int .i64 t779, .int .i64 t780, .slice Ao216 t781.length co216], .agg #[.int .i64 t710, .int .i64 t711, .slice Ao51 t712.length co51]] rfl mc173 ?_; (with_reducible refine (laws_eqField.calls kj123 t779 t780 _ _ t781 t710 t711 _ _ t712 false _ ?side1 ?side2 ?side3 ?side4 A218.out).mono ?_); (case side1 => exact mc2); (case side2 => exact (Kd.R_reads' HO783.out).2.1); (case side3 => exact mc1); (case side4 => exact (Kd.R_reads' HO_717002.out).2.1); rintro e w247 ⟨rfl, hb⟩; refine ⟨_, rfl, ?_⟩; replace HO_717002 := Aside0.mk (Kd.R_below mc18 hb); replace HO_723002 := Aside0.mk (Kd.R_below mc19 hb); replace HO_729002 := Aside0.mk (Kd.R_below mc20 hb); replace HO_739002 := Aside0.mk (Kd.R_below mc21 hb); replace HO770 := Aside0.mk (Kd.R_below mc23 hb); replace HO775 := Aside0.mk (Kd.R_below mc24 hb); replace HO778 := Aside0.mk (Kd.R_below mc25 hb); replace HO783 := Aside0.mk (Kd.R_below mc22 hb); replace BK693 := Aside0.mk (blk_below (g := gb693) (o := .cells #[.int .i64 a0_0, .int .i64 a0_1, .slice A0_2 l0_2.length c0_2] 36 (0, 0)) mc12 hb); replace BK694 := Aside0.mk (blk_below (g := gb694) (o := .cells #[.int .i64 a1_0, .int .i64 a1_1, .slice A1_2 l1_2.length c1_2] 36 (0, 0)) mc13 hb); replace BK716 := Aside0.mk (blk_below (g := gb716) (o := .cells #[.int .i64 t710, .int .i64 t711, .slice Ao51 t712.length co51] 26 (0, 0)) mc14 hb); replace BK722 := Aside0.mk (blk_below (g := gb722) (o := .cells #[.int .i64 t717, .int .i64 t718, .slice Ao61 t757.length co61] 26 (0, 0)) mc15 hb); replace BK728 := Aside0.mk (blk_below (g := gb728) (o := .cells #[.int .i64 t723, .int .i64 t724, .slice Ao71 t759.length co71] 26 (0, 0)) mc16 hb); replace BK738 := Aside0.mk (blk_below (g := gb738) (o := .cells #[.int .i64 t732, .int .i64 t733, .slice Ao84 t734.length co84] 26 (0, 0)) mc17 hb); replace BK785 := Aside0.mk (blk_below (g := gb785) (o := .cells #[.int .i64 t779, .int .i64 t780, .slice Ao216 t781.length co216] 26 (0, 0)) mc6 hb); replace HB := Aside0.mk (below_step mc50 hb); (try clear hb); (try clear hk)))
         go_meet
         case rel => exact ⟨_, (true), mc241, H', ⟨by have := HJ30.out; have := HJ123.out; first | omega | exact Nat.le_refl _⟩, ⟨mc60⟩, ⟨mc61⟩, ⟨mc62⟩, ⟨mc63⟩, ⟨mc64⟩, ⟨mc123⟩, ⟨mc124⟩, ⟨mc125⟩, ⟨mc126⟩, ⟨mc127⟩, ⟨mc128⟩, ⟨mc129⟩, ⟨mc50⟩⟩
       case rest =>
        as_aux_lemma =>
         clear HC194
         try clear c1
         try clear c2
         try clear p2
         try clear c3
         try clear c21
         try clear c22
         try clear c23
         try clear c24
         try clear c25
         try clear c31
         try clear c219
         try clear c220
         try clear c221
         try clear c222
         try clear c223
         try clear c224
         try clear c225
         try clear c227
         try clear c228
         try clear c229
         try clear c230
         try clear c231
         try clear c234
         try clear c235
         try clear c236
         try clear c237
         try clear c238
         try clear c239
         try clear c241
         try clear c242
         try clear c243
         try clear c244
         try clear c245
         try clear hcz226_0
         try clear hcz226_1
         try clear hcz226_2
         try clear hcz232_0
         try clear hcz232_1
         try clear hcz232_2
         try clear hcz240_0
         try clear hcz240_1
         try clear hcz240_2
         try clear hcz246_0
         try clear hcz246_1
         try clear hcz246_2
         try clear hfz226_0
         try clear hfz226_1
         try clear hfz226_2
         try clear hfz232_0
         try clear hfz232_1
         try clear hfz232_2
         try clear hfz240_0
         try clear hfz240_1
         try clear hfz240_2
         try clear hfz246_0
         try clear hfz246_1
         try clear hfz246_2
         obtain ⟨kq, x131_193, rfl, HA, HJ193, HO_717002, HO_723002, HO_729002, HO_739002, HO_786002, BK693, BK694, BK716, BK722, BK728, BK738, BK785, HB⟩ := hcut
         have hl739002_193 := (Kd.R_reads' HO_739002.out).1
         rw [hl739002_193] at HO_739002
         (try simp only [hl739002_193])
         (try simp only [hl739002_193] at BK693)
         (try simp only [hl739002_193] at BK694)
         (try simp only [hl739002_193] at BK716)
         (try simp only [hl739002_193] at BK722)
         (try simp only [hl739002_193] at BK728)
         (try simp only [hl739002_193] at BK738)
         (try simp only [hl739002_193] at BK785)
         (try simp only [hl739002_193] at HO_717002)
         (try simp only [hl739002_193] at HO_723002)
         (try simp only [hl739002_193] at HO_729002)
         (try simp only [hl739002_193] at HO_786002)
         cases kq with
         | zero => exact absurd HA.out (by simp [laws_FnExactCopyRegion.j2])
         | succ kj193 =>
          have H := HA.out
          clear HA
          simp only [laws_FnExactCopyRegion.j2] at H
          by_cases c248 : x131_193 = true
          ·
           subst c248
           have H1 : (some false) = some r := by rw [if_pos rfl] at H; exact H
           exact absurd ((Option.some.inj H1).trans hrt_) (by decide)
          replace c248 := Bool.eq_false_iff.mpr c248
          subst c248
          rw [if_neg (show ¬ (false = true) by decide)] at H
          obtain ⟨t787, A2490, H⟩ := oB_ H
          have A249 := Aside0.mk A2490
          clear A2490
          by_cases c250 : t787 < 0
          ·
           rw [if_pos c250] at H
           have c250b0 : decide (t787 < 0) = true := decide_eq_true c250
           clear c250
           exact absurd ((Option.some.inj H).trans hrt_) (by decide)
          rw [if_neg c250] at H
          have c250b0 : decide (t787 < 0) = false := decide_eq_false c250
          clear c250
          by_cases c259 : t787 = t763
          rotate_left
          ·
           rw [if_neg c259] at H
           have c259b0 : (t787 == t763) = false := beq_eq_false_iff_ne.mpr c259
           have c259b1 : (t787 != t763) = true := bne_iff_ne.mpr c259
           exact absurd ((Option.some.inj H).trans hrt_) (by decide)
          rw [if_pos c259] at H
          have c259b0 : (t787 == t763) = true := beq_iff_eq.mpr c259
          have c259b1 : (t787 != t763) = false := bne_eq_false_iff_eq.mpr c259
          clear c259
          obtain rfl := Option.some.inj H
          have hnb260 := NB738_693.out
          have hnc260 := NB693_738.out
          have hnb261 := NB738_694.out
          have hnc261 := NB694_738.out
          have hnb262 := NB738_716.out
          have hnc262 := NB716_738.out
          have hnb263 := NB738_722.out
          have hnc263 := NB722_738.out
          have hnb264 := NB738_728.out
          have hnc264 := NB728_738.out
          have hnb265 := NB738_785.out
          have hnc265 := NB785_738.out
          have hcz266_0 : wc.cell? ⟨gb738, 0, none⟩ = some (.int .i64 t732) := bc_ BK738 0 rfl
          have hcz266_1 : wc.cell? ⟨gb738, 1, none⟩ = some (.int .i64 t733) := bc_ BK738 1 rfl
          have hcz266_2 : wc.cell? ⟨gb738, 2, none⟩ = some (.slice Ao84 t764.length co84) := bc_ BK738 2 rfl
          have hfz266_0 := blk_frozen BK738.out 0
          have hfz266_1 := blk_frozen BK738.out 1
          have hfz266_2 := blk_frozen BK738.out 2
          go_wp2_with (first | ((with_reducible refine gate_callee (f := 29) rfl ?_); refine goesL_ (some 134) rfl rfl Try.func29 (by kernel_rfl) rfl #[.agg #[.int .i64 t732, .int .i64 t733, .slice Ao84 t764.length co84], .int .i64 1] rfl mc173 ?_; (with_reducible refine (laws_heldField.calls kj193 t732 t733 _ _ t764 1 t787 _ ?side1 ?side2 A249.out).mono ?_); (case side1 => exact mc131); (case side2 => exact (Kd.R_reads' HO_739002.out).2.1); rintro e w267 ⟨rfl, hb⟩; refine ⟨_, rfl, ?_⟩; replace HO_717002 := Aside0.mk (Kd.R_below mc204 hb); replace HO_723002 := Aside0.mk (Kd.R_below mc205 hb); replace HO_729002 := Aside0.mk (Kd.R_below mc206 hb); replace HO_739002 := Aside0.mk (Kd.R_below mc207 hb); replace HO_786002 := Aside0.mk (Kd.R_below (by (with_reducible repeat (first | apply Kd.R_alloc | apply Kd.R_drewN | apply Kd.R_drew)); exact HO_786002.out) hb); replace BK693 := Aside0.mk (blk_below BK693.out hb); replace BK694 := Aside0.mk (blk_below BK694.out hb); replace BK716 := Aside0.mk (blk_below BK716.out hb); replace BK722 := Aside0.mk (blk_below BK722.out hb); replace BK728 := Aside0.mk (blk_below BK728.out hb); replace BK738 := Aside0.mk (blk_below BK738.out hb); replace BK785 := Aside0.mk (blk_below BK785.out hb); replace HB := Aside0.mk (below_step mc50 hb); (try clear hb); (try clear hk)))
          go_ret
          exact ⟨mc225, mc50⟩
end Go.Proofs.Ytdmkbfjipgaloaa.P
