-- Made by pp.py of this session out of the kit's print and of contracts proved by hand; Lean checks it.
import Derived.Test.YtdmkbfjipgaloaaPx0
import Derived.Test.YtdmkbfjipgaloaaPx7
import Derived.Test.YtdmkbfjipgaloaaPx15
namespace Go.Proofs.Ytdmkbfjipgaloaa.P
open Go.RowKit Go.Proofs.YtdmkbfjipgaloaaW.PrintWords Go.Proofs.YtdmkbfjipgaloaaW.PrintLast Go.Proofs.YtdmkbfjipgaloaaW.PrintMore
attribute [local go_sem] max2_int min2_int max_two min_two max_three min_three max_four min_four   -- for this text's walks alone
set_option linter.unusedVariables false
set_option linter.unusedSimpArgs false

/-! ### laws_FnExactRaiseSlopes: function 7 -/
mutual
def laws_FnExactRaiseSlopes.j0 : Nat → Int → Bool → Bool → Bool → Int → Int → List Int → Int → Int → List Int → Int → Int → List Int → Int → Int → List Int → Option (Bool)
  | 0, _, _, _, _, _, _, _, _, _, _, _, _, _, _, _, _ => none
  | k + 1, x1, x7, x10, x44, x843000, x843001, x843002, x856000, x856001, x856002, x862000, x862001, x862002, x869000, x869001, x869002 => if x44 = true then (some false) else ((laws_toField.f k x843000 x843001 x843002).bind fun bt870 => ((laws_eqField.f k x862000 x862001 x862002 bt870.1 bt870.2.1 bt870.2.2).bind fun t875 => (if t875 = true then ((laws_markField.f k x862000 x862001 x862002 1).bind fun bt876 => (if bt876.1 < 0 then (laws_FnExactRaiseSlopes.j1 k x1 x7 true x843000 x843001 x843002 x856000 x856001 x856002 x869000 x869001 x869002) else ((laws_eqField.f k x869000 x869001 x869002 x856000 x856001 x856002).bind fun t878 => (if t878 = true then (laws_FnExactRaiseSlopes.j1 k x1 x7 (x10 != x7) x843000 x843001 x843002 x856000 x856001 x856002 x869000 x869001 x869002) else (laws_FnExactRaiseSlopes.j1 k x1 x7 true x843000 x843001 x843002 x856000 x856001 x856002 x869000 x869001 x869002))))) else (some false))))
def laws_FnExactRaiseSlopes.j1 : Nat → Int → Bool → Bool → Int → Int → List Int → Int → Int → List Int → Int → Int → List Int → Option (Bool)
  | 0, _, _, _, _, _, _, _, _, _, _, _, _ => none
  | k + 1, x1, x7, x65, x843000, x843001, x843002, x856000, x856001, x856002, x869000, x869001, x869002 => if x65 = true then (some false) else ((laws_markField.f k x869000 x869001 x869002 1).bind fun bt879 => ((laws_heldField.f k x869000 x869001 bt879.2 1).bind fun t881 => (if t881 < 0 then (some false) else (if t881 = bt879.1 then ((laws_toField.f k x843000 x843001 x843002).bind fun bt882 => ((impl_RaiseSlopes.f k bt882.1 bt882.2.1 bt882.2.2 x1).bind fun bt887 => ((laws_eqField.f k bt887.1 bt887.2.1 bt887.2.2.1 x856000 x856001 x856002).bind fun t894 => (if t894 = true then (laws_FnExactRaiseSlopes.j2 k bt879.1 (bt887.2.2.2 != x7) x869000 x869001 bt879.2) else (laws_FnExactRaiseSlopes.j2 k bt879.1 true x869000 x869001 bt879.2))))) else (some false)))))
def laws_FnExactRaiseSlopes.j2 : Nat → Int → Bool → Int → Int → List Int → Option (Bool)
  | 0, _, _, _, _, _ => none
  | k + 1, x12, x92, x869000, x869001, x869002 => if x92 = true then (some false) else ((laws_heldField.f k x869000 x869001 x869002 1).bind fun t895 => (if t895 < 0 then (some false) else (if t895 = x12 then (some true) else (some false))))
end
def laws_FnExactRaiseSlopes.f (k : Nat) (a0_0 : Int) (a0_1 : Int) (l0_2 : List Int) (a1 : Int) : Option (Bool) := (laws_szField.f a0_0 a0_1 l0_2 1048576).bind fun t843 => (if t843 < 0 then (some true) else ((laws_toField.f k a0_0 a0_1 l0_2).bind fun bt844 => ((spec_RaiseSlopes.f k bt844.1 bt844.2.1 bt844.2.2 a1).bind fun bt849 => ((laws_toField.f k a0_0 a0_1 l0_2).bind fun bt856 => ((impl_RaiseSlopes.f k bt856.1 bt856.2.1 bt856.2.2 a1).bind fun bt862 => ((laws_eqField.f k bt862.1 bt862.2.1 bt862.2.2.1 bt849.1 bt849.2.1 bt849.2.2.1).bind fun t869 => (if t869 = true then (laws_FnExactRaiseSlopes.j0 k a1 bt849.2.2.2 bt862.2.2.2 (bt862.2.2.2 != bt849.2.2.2) a0_0 a0_1 l0_2 bt849.1 bt849.2.1 bt849.2.2.1 bt856.1 bt856.2.1 bt856.2.2 bt862.1 bt862.2.1 bt862.2.2.1) else (laws_FnExactRaiseSlopes.j0 k a1 bt849.2.2.2 bt862.2.2.2 true a0_0 a0_1 l0_2 bt849.1 bt849.2.1 bt849.2.2.1 bt856.1 bt856.2.1 bt856.2.2 bt862.1 bt862.2.1 bt862.2.2.1))))))))
theorem laws_FnExactRaiseSlopes.mono_l : ∀ k, (∀ y0 y1 y2 y3 y4 y5 y6 y7 y8 y9 y10 y11 y12 y13 y14 y15, LeO (laws_FnExactRaiseSlopes.j0 k y0 y1 y2 y3 y4 y5 y6 y7 y8 y9 y10 y11 y12 y13 y14 y15) (laws_FnExactRaiseSlopes.j0 (k + 1) y0 y1 y2 y3 y4 y5 y6 y7 y8 y9 y10 y11 y12 y13 y14 y15)) ∧ (∀ y0 y1 y2 y3 y4 y5 y6 y7 y8 y9 y10 y11, LeO (laws_FnExactRaiseSlopes.j1 k y0 y1 y2 y3 y4 y5 y6 y7 y8 y9 y10 y11) (laws_FnExactRaiseSlopes.j1 (k + 1) y0 y1 y2 y3 y4 y5 y6 y7 y8 y9 y10 y11)) ∧ (∀ y0 y1 y2 y3 y4, LeO (laws_FnExactRaiseSlopes.j2 k y0 y1 y2 y3 y4) (laws_FnExactRaiseSlopes.j2 (k + 1) y0 y1 y2 y3 y4))
  | 0 => ⟨fun _ _ _ _ _ _ _ _ _ _ _ _ _ _ _ _ r h => by simp [laws_FnExactRaiseSlopes.j0] at h, fun _ _ _ _ _ _ _ _ _ _ _ _ r h => by simp [laws_FnExactRaiseSlopes.j1] at h, fun _ _ _ _ _ r h => by simp [laws_FnExactRaiseSlopes.j2] at h⟩
  | k + 1 => by
    obtain ⟨ih0, ih1, ih2⟩ := laws_FnExactRaiseSlopes.mono_l k
    refine ⟨?_, ?_, ?_⟩
    · intro y0 y1 y2 y3 y4 y5 y6 y7 y8 y9 y10 y11 y12 y13 y14 y15
      unfold laws_FnExactRaiseSlopes.j0
      repeat' first
      | (with_reducible exact ih0 _ _ _ _ _ _ _ _ _ _ _ _ _ _ _ _)
      | (with_reducible exact ih1 _ _ _ _ _ _ _ _ _ _ _ _)
      | (with_reducible exact ih2 _ _ _ _ _)
      | (with_reducible exact impl_RaiseSlopes.mono _ _ _ _ _)
      | (with_reducible exact laws_eqField.mono _ _ _ _ _ _ _)
      | (with_reducible exact laws_heldField.mono _ _ _ _ _)
      | (with_reducible exact laws_markField.mono _ _ _ _ _)
      | (with_reducible exact laws_toField.mono _ _ _ _)
      | (with_reducible exact spec_RaiseSlopes.mono _ _ _ _ _)
      | (with_reducible exact LeO.refl _)
      | (with_reducible exact LeO.none _)
      | (with_reducible refine LeO.ite ?_ ?_)
      | (with_reducible refine LeO.bind ?_ (fun _ => ?_))
      | exact ih0 _ _ _ _ _ _ _ _ _ _ _ _ _ _ _ _
      | exact ih1 _ _ _ _ _ _ _ _ _ _ _ _
      | exact ih2 _ _ _ _ _
      | exact impl_RaiseSlopes.mono _ _ _ _ _
      | exact laws_eqField.mono _ _ _ _ _ _ _
      | exact laws_heldField.mono _ _ _ _ _
      | exact laws_markField.mono _ _ _ _ _
      | exact laws_toField.mono _ _ _ _
      | exact spec_RaiseSlopes.mono _ _ _ _ _
      | exact LeO.none _
      | refine LeO.ite ?_ ?_
      | refine LeO.bind ?_ (fun _ => ?_)
    · intro y0 y1 y2 y3 y4 y5 y6 y7 y8 y9 y10 y11
      unfold laws_FnExactRaiseSlopes.j1
      repeat' first
      | (with_reducible exact ih0 _ _ _ _ _ _ _ _ _ _ _ _ _ _ _ _)
      | (with_reducible exact ih1 _ _ _ _ _ _ _ _ _ _ _ _)
      | (with_reducible exact ih2 _ _ _ _ _)
      | (with_reducible exact impl_RaiseSlopes.mono _ _ _ _ _)
      | (with_reducible exact laws_eqField.mono _ _ _ _ _ _ _)
      | (with_reducible exact laws_heldField.mono _ _ _ _ _)
      | (with_reducible exact laws_markField.mono _ _ _ _ _)
      | (with_reducible exact laws_toField.mono _ _ _ _)
      | (with_reducible exact spec_RaiseSlopes.mono _ _ _ _ _)
      | (with_reducible exact LeO.refl _)
      | (with_reducible exact LeO.none _)
      | (with_reducible refine LeO.ite ?_ ?_)
      | (with_reducible refine LeO.bind ?_ (fun _ => ?_))
      | exact ih0 _ _ _ _ _ _ _ _ _ _ _ _ _ _ _ _
      | exact ih1 _ _ _ _ _ _ _ _ _ _ _ _
      | exact ih2 _ _ _ _ _
      | exact impl_RaiseSlopes.mono _ _ _ _ _
      | exact laws_eqField.mono _ _ _ _ _ _ _
      | exact laws_heldField.mono _ _ _ _ _
      | exact laws_markField.mono _ _ _ _ _
      | exact laws_toField.mono _ _ _ _
      | exact spec_RaiseSlopes.mono _ _ _ _ _
      | exact LeO.none _
      | refine LeO.ite ?_ ?_
      | refine LeO.bind ?_ (fun _ => ?_)
    · intro y0 y1 y2 y3 y4
      unfold laws_FnExactRaiseSlopes.j2
      repeat' first
      | (with_reducible exact ih0 _ _ _ _ _ _ _ _ _ _ _ _ _ _ _ _)
      | (with_reducible exact ih1 _ _ _ _ _ _ _ _ _ _ _ _)
      | (with_reducible exact ih2 _ _ _ _ _)
      | (with_reducible exact impl_RaiseSlopes.mono _ _ _ _ _)
      | (with_reducible exact laws_eqField.mono _ _ _ _ _ _ _)
      | (with_reducible exact laws_heldField.mono _ _ _ _ _)
      | (with_reducible exact laws_markField.mono _ _ _ _ _)
      | (with_reducible exact laws_toField.mono _ _ _ _)
      | (with_reducible exact spec_RaiseSlopes.mono _ _ _ _ _)
      | (with_reducible exact LeO.refl _)
      | (with_reducible exact LeO.none _)
      | (with_reducible refine LeO.ite ?_ ?_)
      | (with_reducible refine LeO.bind ?_ (fun _ => ?_))
      | exact ih0 _ _ _ _ _ _ _ _ _ _ _ _ _ _ _ _
      | exact ih1 _ _ _ _ _ _ _ _ _ _ _ _
      | exact ih2 _ _ _ _ _
      | exact impl_RaiseSlopes.mono _ _ _ _ _
      | exact laws_eqField.mono _ _ _ _ _ _ _
      | exact laws_heldField.mono _ _ _ _ _
      | exact laws_markField.mono _ _ _ _ _
      | exact laws_toField.mono _ _ _ _
      | exact spec_RaiseSlopes.mono _ _ _ _ _
      | exact LeO.none _
      | refine LeO.ite ?_ ?_
      | refine LeO.bind ?_ (fun _ => ?_)
theorem laws_FnExactRaiseSlopes.mono : ∀ a0 a1 a2 a3 k, LeO (laws_FnExactRaiseSlopes.f k a0 a1 a2 a3) (laws_FnExactRaiseSlopes.f (k + 1) a0 a1 a2 a3) := by
  intro a0 a1 a2 a3 k
  obtain ⟨ih0, ih1, ih2⟩ := laws_FnExactRaiseSlopes.mono_l k
  unfold laws_FnExactRaiseSlopes.f
  repeat' first
      | (with_reducible exact ih0 _ _ _ _ _ _ _ _ _ _ _ _ _ _ _ _)
      | (with_reducible exact ih1 _ _ _ _ _ _ _ _ _ _ _ _)
      | (with_reducible exact ih2 _ _ _ _ _)
      | (with_reducible exact impl_RaiseSlopes.mono _ _ _ _ _)
      | (with_reducible exact laws_eqField.mono _ _ _ _ _ _ _)
      | (with_reducible exact laws_heldField.mono _ _ _ _ _)
      | (with_reducible exact laws_markField.mono _ _ _ _ _)
      | (with_reducible exact laws_toField.mono _ _ _ _)
      | (with_reducible exact spec_RaiseSlopes.mono _ _ _ _ _)
      | (with_reducible exact LeO.refl _)
      | (with_reducible exact LeO.none _)
      | (with_reducible refine LeO.ite ?_ ?_)
      | (with_reducible refine LeO.bind ?_ (fun _ => ?_))
      | exact ih0 _ _ _ _ _ _ _ _ _ _ _ _ _ _ _ _
      | exact ih1 _ _ _ _ _ _ _ _ _ _ _ _
      | exact ih2 _ _ _ _ _
      | exact impl_RaiseSlopes.mono _ _ _ _ _
      | exact laws_eqField.mono _ _ _ _ _ _ _
      | exact laws_heldField.mono _ _ _ _ _
      | exact laws_markField.mono _ _ _ _ _
      | exact laws_toField.mono _ _ _ _
      | exact spec_RaiseSlopes.mono _ _ _ _ _
      | exact LeO.none _
      | refine LeO.ite ?_ ?_
      | refine LeO.bind ?_ (fun _ => ?_)
set_option maxHeartbeats 8000000 in
set_option maxRecDepth 100000 in
theorem laws_FnExactRaiseSlopes.calls (k : Nat) (a0_0 : Int) (a0_1 : Int) (A0_2 : Option Addr) (c0_2 : Nat) (l0_2 : List Int) (a1 : Int) (r : Bool) (w : World) (hr0_2 : Kd.C (Kd.int .i64) w A0_2 l0_2.length l0_2) (hc0_2 : l0_2.length ≤ c0_2) (hrt_ : r = true) (h : laws_FnExactRaiseSlopes.f k a0_0 a0_1 l0_2 a1 = some r) :
    Calls Try.prog 7 #[.agg #[.int .i64 a0_0, .int .i64 a0_1, .slice A0_2 l0_2.length c0_2], .int .i64 a1] w fun e w' => e = .returned (.bool r) ∧ Below w.heap.size w w' := by
  have hu36 := Try.underlying36
  have hu26 := Try.underlying26
  have HR0_2 := Aside0.mk hr0_2
  have HC0_2 := Aside0.mk hc0_2
  clear hr0_2 hc0_2
  have HB := Aside0.mk (Below.refl w.heap.size w)
  have H : ((laws_szField.f a0_0 a0_1 l0_2 1048576).bind fun t843 => (if t843 < 0 then (some true) else ((laws_toField.f k a0_0 a0_1 l0_2).bind fun bt844 => ((spec_RaiseSlopes.f k bt844.1 bt844.2.1 bt844.2.2 a1).bind fun bt849 => ((laws_toField.f k a0_0 a0_1 l0_2).bind fun bt856 => ((impl_RaiseSlopes.f k bt856.1 bt856.2.1 bt856.2.2 a1).bind fun bt862 => ((laws_eqField.f k bt862.1 bt862.2.1 bt862.2.2.1 bt849.1 bt849.2.1 bt849.2.2.1).bind fun t869 => (if t869 = true then (laws_FnExactRaiseSlopes.j0 k a1 bt849.2.2.2 bt862.2.2.2 (bt862.2.2.2 != bt849.2.2.2) a0_0 a0_1 l0_2 bt849.1 bt849.2.1 bt849.2.2.1 bt856.1 bt856.2.1 bt856.2.2 bt862.1 bt862.2.1 bt862.2.2.1) else (laws_FnExactRaiseSlopes.j0 k a1 bt849.2.2.2 bt862.2.2.2 true a0_0 a0_1 l0_2 bt849.1 bt849.2.1 bt849.2.2.1 bt856.1 bt856.2.1 bt856.2.2 bt862.1 bt862.2.1 bt862.2.2.1))))))))) = some r := h
  clear h
  replace H := Option.bind_eq_some_iff.mp H
  obtain ⟨t843, A30, H⟩ := H
  replace H : (if t843 < 0 then (some true) else ((laws_toField.f k a0_0 a0_1 l0_2).bind fun bt844 => ((spec_RaiseSlopes.f k bt844.1 bt844.2.1 bt844.2.2 a1).bind fun bt849 => ((laws_toField.f k a0_0 a0_1 l0_2).bind fun bt856 => ((impl_RaiseSlopes.f k bt856.1 bt856.2.1 bt856.2.2 a1).bind fun bt862 => ((laws_eqField.f k bt862.1 bt862.2.1 bt862.2.2.1 bt849.1 bt849.2.1 bt849.2.2.1).bind fun t869 => (if t869 = true then (laws_FnExactRaiseSlopes.j0 k a1 bt849.2.2.2 bt862.2.2.2 (bt862.2.2.2 != bt849.2.2.2) a0_0 a0_1 l0_2 bt849.1 bt849.2.1 bt849.2.2.1 bt856.1 bt856.2.1 bt856.2.2 bt862.1 bt862.2.1 bt862.2.2.1) else (laws_FnExactRaiseSlopes.j0 k a1 bt849.2.2.2 bt862.2.2.2 true a0_0 a0_1 l0_2 bt849.1 bt849.2.1 bt849.2.2.1 bt856.1 bt856.2.1 bt856.2.2 bt862.1 bt862.2.1 bt862.2.2.1)))))))) = some r := H
  have A3 := Aside0.mk A30
  clear A30
  by_cases c4 : t843 < 0
  · rw [if_pos c4] at H
    have c4b0 : decide (t843 < 0) = true := decide_eq_true c4
    clear c4
    obtain rfl := Option.some.inj H
    go_enter Try.func7, Try.ntmps7
    go_wp2_with (first | ((with_reducible refine gate_dst (N := 2) rfl ?_); refine box_event ?hg (N := 2) ?hd (cs := #[.int .i64 a0_0, .int .i64 a0_1, .slice A0_2 l0_2.length c0_2]) (t := 36) ?hr ?_; (case hd => rfl); (case hg => rfl); (case hr => first | (go_simp; done) | (go_simp; rfl)); intro gb842 hg w5 hbox hb; have n0_ := Aside0.mk (below_step (by repeat (first | (with_reducible first | exact HB.out | apply below_alloc | apply pw_below_drewN | apply below_drew1) | exact HB.out)) hb); have n1_ := Aside0.mk (hbox); have n2_ := Aside0.mk ((by rw [hg]; exact (below_size (by repeat (first | (with_reducible first | exact HB.out | apply below_alloc | apply pw_below_drewN | apply below_drew1) | exact HB.out))) : w.heap.size ≤ gb842)); have n3_ := Aside0.mk ((by rw [hg]; exact (below_size (by repeat (first | (with_reducible first | exact HB.out | apply below_alloc | apply pw_below_drewN | apply below_drew1) | exact HB.out))) : w.heap.size ≤ gb842)); clear HB; have HB := n0_; have BK842 := n1_; have GW842 := n2_; have GE842 := n3_; clear n0_ n1_ n2_ n3_; clear hb hbox hg; have hcz6_0 : w5.cell? ⟨gb842, 0, none⟩ = some (.int .i64 a0_0) := (blk_cell BK842.out 0).trans rfl; have hcz6_1 : w5.cell? ⟨gb842, 1, none⟩ = some (.int .i64 a0_1) := (blk_cell BK842.out 1).trans rfl; have hcz6_2 : w5.cell? ⟨gb842, 2, none⟩ = some (.slice A0_2 l0_2.length c0_2) := (blk_cell BK842.out 2).trans rfl; have hfz6_0 := blk_frozen BK842.out 0; have hfz6_1 := blk_frozen BK842.out 1; have hfz6_2 := blk_frozen BK842.out 2) | ((with_reducible refine gate_callee (f := 20) rfl ?_); refine goesL_ (some 18) rfl rfl Try.func20 (by kernel_rfl) rfl #[.agg #[.int .i64 a0_0, .int .i64 a0_1, .slice A0_2 l0_2.length c0_2], .int .i64 1048576] rfl (by (try simp only [List.map_toArray, List.map_cons, List.map_nil]); first | done | rfl | (simp only [List.length_drop, List.length_take]; rfl)) ?_; (with_reducible refine (laws_szField.calls a0_0 a0_1 _ _ l0_2 1048576 t843 _ ?side1 ?side2 A3.out).mono ?_); (case side1 => repeat (first | exact (Kd.C_below HR0_2.out HB.out) | (with_reducible refine Kd.C_alloc ?_ _) | (with_reducible refine Kd.C_drewN ?_ _) | (with_reducible refine Kd.C_drew ?_))); (case side2 => exact HC0_2.out); rintro e w7 ⟨rfl, hb⟩; refine ⟨_, rfl, ?_⟩; have n0_ := Aside0.mk (blk_below (g := gb842) (o := .cells #[.int .i64 a0_0, .int .i64 a0_1, .slice A0_2 l0_2.length c0_2] 36 (0, 0)) BK842.out hb); have n1_ := Aside0.mk (below_step (by repeat (first | (with_reducible first | exact HB.out | apply below_alloc | apply pw_below_drewN | apply below_drew1 | refine below_set ?_ GE842.out) | exact HB.out)) hb); clear BK842; clear HB; have BK842 := n0_; have HB := n1_; clear n0_ n1_; (try clear hb); (try clear hb2); (try clear hk); (try clear hi)))
    go_ret
    exact ⟨by first | rfl | (simp [errW_none, errW_some] <;> rfl) | (simp [*, errW_none, errW_some] <;> rfl), by repeat (first | (with_reducible first | exact HB.out | apply below_alloc | apply pw_below_drewN | apply below_drew1 | refine below_set ?_ GE842.out) | exact HB.out)⟩
  · rw [if_neg c4] at H
    have c4b0 : decide (t843 < 0) = false := decide_eq_false c4
    clear c4
    replace H := Option.bind_eq_some_iff.mp H
    obtain ⟨⟨t844, t845, t846⟩, A80, H⟩ := H
    replace H : ((spec_RaiseSlopes.f k t844 t845 t846 a1).bind fun bt849 => ((laws_toField.f k a0_0 a0_1 l0_2).bind fun bt856 => ((impl_RaiseSlopes.f k bt856.1 bt856.2.1 bt856.2.2 a1).bind fun bt862 => ((laws_eqField.f k bt862.1 bt862.2.1 bt862.2.2.1 bt849.1 bt849.2.1 bt849.2.2.1).bind fun t869 => (if t869 = true then (laws_FnExactRaiseSlopes.j0 k a1 bt849.2.2.2 bt862.2.2.2 (bt862.2.2.2 != bt849.2.2.2) a0_0 a0_1 l0_2 bt849.1 bt849.2.1 bt849.2.2.1 bt856.1 bt856.2.1 bt856.2.2 bt862.1 bt862.2.1 bt862.2.2.1) else (laws_FnExactRaiseSlopes.j0 k a1 bt849.2.2.2 bt862.2.2.2 true a0_0 a0_1 l0_2 bt849.1 bt849.2.1 bt849.2.2.1 bt856.1 bt856.2.1 bt856.2.2 bt862.1 bt862.2.1 bt862.2.2.1)))))) = some r := H
    have A8 := Aside0.mk A80
    clear A80
    replace H := Option.bind_eq_some_iff.mp H
    obtain ⟨⟨t849, t850, t851, t854⟩, A90, H⟩ := H
    replace H : ((laws_toField.f k a0_0 a0_1 l0_2).bind fun bt856 => ((impl_RaiseSlopes.f k bt856.1 bt856.2.1 bt856.2.2 a1).bind fun bt862 => ((laws_eqField.f k bt862.1 bt862.2.1 bt862.2.2.1 t849 t850 t851).bind fun t869 => (if t869 = true then (laws_FnExactRaiseSlopes.j0 k a1 t854 bt862.2.2.2 (bt862.2.2.2 != t854) a0_0 a0_1 l0_2 t849 t850 t851 bt856.1 bt856.2.1 bt856.2.2 bt862.1 bt862.2.1 bt862.2.2.1) else (laws_FnExactRaiseSlopes.j0 k a1 t854 bt862.2.2.2 true a0_0 a0_1 l0_2 t849 t850 t851 bt856.1 bt856.2.1 bt856.2.2 bt862.1 bt862.2.1 bt862.2.2.1))))) = some r := H
    have A9 := Aside0.mk A90
    clear A90
    replace H := Option.bind_eq_some_iff.mp H
    obtain ⟨⟨t856, t857, t858⟩, A100, H⟩ := H
    replace H : ((impl_RaiseSlopes.f k t856 t857 t858 a1).bind fun bt862 => ((laws_eqField.f k bt862.1 bt862.2.1 bt862.2.2.1 t849 t850 t851).bind fun t869 => (if t869 = true then (laws_FnExactRaiseSlopes.j0 k a1 t854 bt862.2.2.2 (bt862.2.2.2 != t854) a0_0 a0_1 l0_2 t849 t850 t851 t856 t857 t858 bt862.1 bt862.2.1 bt862.2.2.1) else (laws_FnExactRaiseSlopes.j0 k a1 t854 bt862.2.2.2 true a0_0 a0_1 l0_2 t849 t850 t851 t856 t857 t858 bt862.1 bt862.2.1 bt862.2.2.1)))) = some r := H
    have A10 := Aside0.mk A100
    clear A100
    replace H := Option.bind_eq_some_iff.mp H
    obtain ⟨⟨t862, t863, t864, t867⟩, A110, H⟩ := H
    replace H : ((laws_eqField.f k t862 t863 t864 t849 t850 t851).bind fun t869 => (if t869 = true then (laws_FnExactRaiseSlopes.j0 k a1 t854 t867 (t867 != t854) a0_0 a0_1 l0_2 t849 t850 t851 t856 t857 t858 t862 t863 t864) else (laws_FnExactRaiseSlopes.j0 k a1 t854 t867 true a0_0 a0_1 l0_2 t849 t850 t851 t856 t857 t858 t862 t863 t864))) = some r := H
    have A11 := Aside0.mk A110
    clear A110
    have HC12 := Aside0.mk H
    clear H
    go_enter Try.func7, Try.ntmps7
    go_upto_region 8 with (first | ((with_reducible refine gate_dst (N := 2) rfl ?_); refine box_event ?hg (N := 2) ?hd (cs := #[.int .i64 a0_0, .int .i64 a0_1, .slice A0_2 l0_2.length c0_2]) (t := 36) ?hr ?_; (case hd => rfl); (case hg => rfl); (case hr => first | (go_simp; done) | (go_simp; rfl)); intro gb842 hg w13 hbox hb; have n0_ := Aside0.mk (below_step (by repeat (first | (with_reducible first | exact HB.out | apply below_alloc | apply pw_below_drewN | apply below_drew1) | exact HB.out)) hb); have n1_ := Aside0.mk (hbox); have n2_ := Aside0.mk ((by rw [hg]; exact (below_size (by repeat (first | (with_reducible first | exact HB.out | apply below_alloc | apply pw_below_drewN | apply below_drew1) | exact HB.out))) : w.heap.size ≤ gb842)); have n3_ := Aside0.mk ((by rw [hg]; exact (below_size (by repeat (first | (with_reducible first | exact HB.out | apply below_alloc | apply pw_below_drewN | apply below_drew1) | exact HB.out))) : w.heap.size ≤ gb842)); clear HB; have HB := n0_; have BK842 := n1_; have GW842 := n2_; have GE842 := n3_; clear n0_ n1_ n2_ n3_; clear hb hbox hg; have hcz14_0 : w13.cell? ⟨gb842, 0, none⟩ = some (.int .i64 a0_0) := (blk_cell BK842.out 0).trans rfl; have hcz14_1 : w13.cell? ⟨gb842, 1, none⟩ = some (.int .i64 a0_1) := (blk_cell BK842.out 1).trans rfl; have hcz14_2 : w13.cell? ⟨gb842, 2, none⟩ = some (.slice A0_2 l0_2.length c0_2) := (blk_cell BK842.out 2).trans rfl; have hfz14_0 := blk_frozen BK842.out 0; have hfz14_1 := blk_frozen BK842.out 1; have hfz14_2 := blk_frozen BK842.out 2) | ((with_reducible refine gate_callee (f := 20) rfl ?_); refine goesL_ (some 18) rfl rfl Try.func20 (by kernel_rfl) rfl #[.agg #[.int .i64 a0_0, .int .i64 a0_1, .slice A0_2 l0_2.length c0_2], .int .i64 1048576] rfl (by (try simp only [List.map_toArray, List.map_cons, List.map_nil]); first | done | rfl | (simp only [List.length_drop, List.length_take]; rfl)) ?_; (with_reducible refine (laws_szField.calls a0_0 a0_1 _ _ l0_2 1048576 t843 _ ?side1 ?side2 A3.out).mono ?_); (case side1 => repeat (first | exact (Kd.C_below HR0_2.out HB.out) | (with_reducible refine Kd.C_alloc ?_ _) | (with_reducible refine Kd.C_drewN ?_ _) | (with_reducible refine Kd.C_drew ?_))); (case side2 => exact HC0_2.out); rintro e w15 ⟨rfl, hb⟩; refine ⟨_, rfl, ?_⟩; have n0_ := Aside0.mk (blk_below (g := gb842) (o := .cells #[.int .i64 a0_0, .int .i64 a0_1, .slice A0_2 l0_2.length c0_2] 36 (0, 0)) BK842.out hb); have n1_ := Aside0.mk (below_step (by repeat (first | (with_reducible first | exact HB.out | apply below_alloc | apply pw_below_drewN | apply below_drew1 | refine below_set ?_ GE842.out) | exact HB.out)) hb); clear BK842; clear HB; have BK842 := n0_; have HB := n1_; clear n0_ n1_; (try clear hb); (try clear hb2); (try clear hk); (try clear hi); have hcz16_0 : w15.cell? ⟨gb842, 0, none⟩ = some (.int .i64 a0_0) := (blk_cell BK842.out 0).trans rfl; have hcz16_1 : w15.cell? ⟨gb842, 1, none⟩ = some (.int .i64 a0_1) := (blk_cell BK842.out 1).trans rfl; have hcz16_2 : w15.cell? ⟨gb842, 2, none⟩ = some (.slice A0_2 l0_2.length c0_2) := (blk_cell BK842.out 2).trans rfl; have hfz16_0 := blk_frozen BK842.out 0; have hfz16_1 := blk_frozen BK842.out 1; have hfz16_2 := blk_frozen BK842.out 2) | ((with_reducible refine gate_callee (f := 22) rfl ?_); refine goesL_ (some 23) rfl rfl Try.func22 (by kernel_rfl) rfl #[.agg #[.int .i64 a0_0, .int .i64 a0_1, .slice A0_2 l0_2.length c0_2]] rfl (by (try simp only [List.map_toArray, List.map_cons, List.map_nil]); first | done | rfl | (simp only [List.length_drop, List.length_take]; rfl)) ?_; (with_reducible refine (laws_toField.calls k a0_0 a0_1 _ _ l0_2 t844 t845 t846 _ ?side1 ?side2 A8.out).mono ?_); (case side1 => repeat (first | exact (Kd.C_below HR0_2.out HB.out) | (with_reducible refine Kd.C_alloc ?_ _) | (with_reducible refine Kd.C_drewN ?_ _) | (with_reducible refine Kd.C_drew ?_))); (case side2 => exact HC0_2.out); rintro e w17 ⟨v847, rfl, ho0, hb⟩; refine ⟨_, rfl, ?_⟩; have n0_ := Aside0.mk (Kd.R_lower ho0 (below_size (by repeat (first | (with_reducible first | exact HB.out | apply below_alloc | apply pw_below_drewN | apply below_drew1 | refine below_set ?_ GE842.out) | exact HB.out)))); have n1_ := Aside0.mk (blk_below (g := gb842) (o := .cells #[.int .i64 a0_0, .int .i64 a0_1, .slice A0_2 l0_2.length c0_2] 36 (0, 0)) BK842.out hb); have n2_ := Aside0.mk (below_step (by repeat (first | (with_reducible first | exact HB.out | apply below_alloc | apply pw_below_drewN | apply below_drew1 | refine below_set ?_ GE842.out) | exact HB.out)) hb); clear BK842; clear HB; have HO848 := n0_; have BK842 := n1_; have HB := n2_; clear n0_ n1_ n2_; (try clear hb); (try clear hb2); (try clear hk); (try clear hi); (try clear ho0); obtain ⟨Ao18, co18, eo18⟩ := Kd.R_slice HO848.out; subst eo18) | ((with_reducible refine gate_callee (f := 17) rfl ?_); refine goesL_ (some 25) rfl rfl Try.func17 (by kernel_rfl) rfl #[.agg #[.int .i64 t844, .int .i64 t845, .slice Ao18 t846.length co18], .int .i64 a1] rfl (by (try simp only [List.map_toArray, List.map_cons, List.map_nil]); first | done | rfl | (simp only [List.length_drop, List.length_take]; rfl)) ?_; (with_reducible refine (spec_RaiseSlopes.calls k t844 t845 _ _ t846 a1 t849 t850 t851 t854 _ ?side1 ?side2 A9.out).mono ?_); (case side1 => repeat (first | exact (Kd.R_reads' HO848.out).2.2 | (with_reducible refine Kd.C_alloc ?_ _) | (with_reducible refine Kd.C_drewN ?_ _) | (with_reducible refine Kd.C_drew ?_))); (case side2 => exact (Kd.R_reads' HO848.out).2.1); rintro e w19 ⟨v852, rfl, ho0, hb⟩; refine ⟨_, rfl, ?_⟩; have n0_ := Aside0.mk (Kd.R_elder' (by (with_reducible repeat (first | apply Kd.R_alloc | apply Kd.R_drewN | apply Kd.R_drew)); exact HO848.out) (Kd.R_base ho0) hb); have n1_ := Aside0.mk (Kd.R_lower (Kd.R_new' ho0 (Kd.R_lt (by (with_reducible repeat (first | apply Kd.R_alloc | apply Kd.R_drewN | apply Kd.R_drew)); exact HO848.out))) (below_size (by repeat (first | (with_reducible first | exact HB.out | apply below_alloc | apply pw_below_drewN | apply below_drew1 | refine below_set ?_ GE842.out) | exact HB.out)))); have n2_ := Aside0.mk (blk_below (g := gb842) (o := .cells #[.int .i64 a0_0, .int .i64 a0_1, .slice A0_2 l0_2.length c0_2] 36 (0, 0)) BK842.out hb); have n3_ := Aside0.mk (below_step (by repeat (first | (with_reducible first | exact HB.out | apply below_alloc | apply pw_below_drewN | apply below_drew1 | refine below_set ?_ GE842.out) | exact HB.out)) hb); clear HO848; clear BK842; clear HB; have HO848 := n0_; have HO853 := n1_; have BK842 := n2_; have HB := n3_; clear n0_ n1_ n2_ n3_; (try clear hb); (try clear hb2); (try clear hk); (try clear hi); (try clear ho0)) | ((with_reducible refine gate_dst (N := 6) rfl ?_); refine box_event ?hg (N := 6) ?hd (cs := #[.int .i64 0, .int .i64 0, .slice none 0 0]) (t := 26) ?hr ?_; (case hd => rfl); (case hg => rfl); (case hr => first | (go_simp; done) | (go_simp; rfl)); intro gb855 hg w20 hbox hb; have n0_ := Aside0.mk (Kd.R_below (by (with_reducible repeat (first | apply Kd.R_alloc | apply Kd.R_drewN | apply Kd.R_drew)); exact HO848.out) hb); have n1_ := Aside0.mk (Kd.R_below (by (with_reducible repeat (first | apply Kd.R_alloc | apply Kd.R_drewN | apply Kd.R_drew)); exact HO853.out) hb); have n2_ := Aside0.mk (blk_below (g := gb842) (o := .cells #[.int .i64 a0_0, .int .i64 a0_1, .slice A0_2 l0_2.length c0_2] 36 (0, 0)) BK842.out hb); have n3_ := Aside0.mk (below_step (by repeat (first | (with_reducible first | exact HB.out | apply below_alloc | apply pw_below_drewN | apply below_drew1 | refine below_set ?_ GE842.out) | exact HB.out)) hb); have n4_ := Aside0.mk (hbox); have n5_ := Aside0.mk ((by rw [hg]; exact (below_size (by repeat (first | (with_reducible first | exact HB.out | apply below_alloc | apply pw_below_drewN | apply below_drew1 | refine below_set ?_ GE842.out) | exact HB.out))) : w.heap.size ≤ gb855)); have n6_ := Aside0.mk ((by rw [hg]; exact (below_size (by repeat (first | (with_reducible first | exact HB.out | apply below_alloc | apply pw_below_drewN | apply below_drew1 | refine below_set ?_ GE842.out) | exact HB.out))) : w.heap.size ≤ gb855)); have n7_ := Aside0.mk ((by rw [hg]; exact Nat.ne_of_lt (blk_lt (g := gb842) (o := .cells #[.int .i64 a0_0, .int .i64 a0_1, .slice A0_2 l0_2.length c0_2] 36 (0, 0)) BK842.out) : gb842 ≠ gb855)); have n8_ := Aside0.mk ((by rw [hg]; exact Nat.ne_of_gt (blk_lt (g := gb842) (o := .cells #[.int .i64 a0_0, .int .i64 a0_1, .slice A0_2 l0_2.length c0_2] 36 (0, 0)) BK842.out) : gb855 ≠ gb842)); clear HO848; clear HO853; clear BK842; clear HB; have HO848 := n0_; have HO853 := n1_; have BK842 := n2_; have HB := n3_; have BK855 := n4_; have GW855 := n5_; have GE855 := n6_; have NB842_855 := n7_; have NB855_842 := n8_; clear n0_ n1_ n2_ n3_ n4_ n5_ n6_ n7_ n8_; clear hb hbox hg; have hnb21 := NB855_842.out; have hnc21 := NB842_855.out; have hcz22_0 : w20.cell? ⟨gb855, 0, none⟩ = some (.int .i64 0) := (blk_cell BK855.out 0).trans rfl; have hcz22_1 : w20.cell? ⟨gb855, 1, none⟩ = some (.int .i64 0) := (blk_cell BK855.out 1).trans rfl; have hcz22_2 : w20.cell? ⟨gb855, 2, none⟩ = some (.slice none 0 0) := (blk_cell BK855.out 2).trans rfl; have hfz22_0 := blk_frozen BK855.out 0; have hfz22_1 := blk_frozen BK855.out 1; have hfz22_2 := blk_frozen BK855.out 2; obtain ⟨Ao23, co23, eo23⟩ := Kd.R_slice HO853.out; subst eo23; have hcz24_0 : w20.cell? ⟨gb842, 0, none⟩ = some (.int .i64 a0_0) := (blk_cell BK842.out 0).trans rfl; have hcz24_1 : w20.cell? ⟨gb842, 1, none⟩ = some (.int .i64 a0_1) := (blk_cell BK842.out 1).trans rfl; have hcz24_2 : w20.cell? ⟨gb842, 2, none⟩ = some (.slice A0_2 l0_2.length c0_2) := (blk_cell BK842.out 2).trans rfl; have hfz24_0 := blk_frozen BK842.out 0; have hfz24_1 := blk_frozen BK842.out 1; have hfz24_2 := blk_frozen BK842.out 2) | ((with_reducible refine gate_callee (f := 22) rfl ?_); refine goesL_ (some 29) rfl rfl Try.func22 (by kernel_rfl) rfl #[.agg #[.int .i64 a0_0, .int .i64 a0_1, .slice A0_2 l0_2.length c0_2]] rfl (by (try simp only [List.map_toArray, List.map_cons, List.map_nil]); first | done | rfl | (simp only [List.length_drop, List.length_take]; rfl)) ?_; (with_reducible refine (laws_toField.calls k a0_0 a0_1 _ _ l0_2 t856 t857 t858 _ ?side1 ?side2 A10.out).mono ?_); (case side1 => exact Kd.C_below HR0_2.out (by repeat (first | (with_reducible first | exact HB.out | apply below_alloc | apply pw_below_drewN | apply below_drew1 | refine below_set ?_ GE842.out | refine below_set ?_ GE855.out) | exact HB.out))); (case side2 => exact HC0_2.out); rintro e w25 ⟨v859, rfl, ho0, hb⟩; refine ⟨_, rfl, ?_⟩; have n0_ := Aside0.mk (Kd.R_elder' (by (with_reducible repeat (first | apply Kd.R_alloc | apply Kd.R_drewN | apply Kd.R_drew)); exact (Kd.R_mono (Kd.R_far (p := ⟨gb855, 2, none⟩) (Kd.R_far (p := ⟨gb855, 1, none⟩) (Kd.R_far (p := ⟨gb855, 0, none⟩) (Kd.R_types HO848.out BK855.out (by decide)) (fun _ hk => hk.2) (.int .i64 t849)) (fun _ hk => hk.2) (.int .i64 t850)) (fun _ hk => hk.2) (.slice Ao23 t851.length co23)) (fun _ h_ => h_.1))) (Kd.R_base ho0) hb); have n1_ := Aside0.mk (Kd.R_elder' (by (with_reducible repeat (first | apply Kd.R_alloc | apply Kd.R_drewN | apply Kd.R_drew)); exact (Kd.R_mono (Kd.R_far (p := ⟨gb855, 2, none⟩) (Kd.R_far (p := ⟨gb855, 1, none⟩) (Kd.R_far (p := ⟨gb855, 0, none⟩) (Kd.R_types HO853.out BK855.out (by decide)) (fun _ hk => hk.2) (.int .i64 t849)) (fun _ hk => hk.2) (.int .i64 t850)) (fun _ hk => hk.2) (.slice Ao23 t851.length co23)) (fun _ h_ => h_.1))) (Kd.R_base ho0) hb); have n2_ := Aside0.mk (Kd.R_lower (Kd.R_new' (Kd.R_new' ho0 (Kd.R_lt (by (with_reducible repeat (first | apply Kd.R_alloc | apply Kd.R_drewN | apply Kd.R_drew)); exact (Kd.R_mono (Kd.R_far (p := ⟨gb855, 2, none⟩) (Kd.R_far (p := ⟨gb855, 1, none⟩) (Kd.R_far (p := ⟨gb855, 0, none⟩) (Kd.R_types HO848.out BK855.out (by decide)) (fun _ hk => hk.2) (.int .i64 t849)) (fun _ hk => hk.2) (.int .i64 t850)) (fun _ hk => hk.2) (.slice Ao23 t851.length co23)) (fun _ h_ => h_.1))))) (Kd.R_lt (by (with_reducible repeat (first | apply Kd.R_alloc | apply Kd.R_drewN | apply Kd.R_drew)); exact (Kd.R_mono (Kd.R_far (p := ⟨gb855, 2, none⟩) (Kd.R_far (p := ⟨gb855, 1, none⟩) (Kd.R_far (p := ⟨gb855, 0, none⟩) (Kd.R_types HO853.out BK855.out (by decide)) (fun _ hk => hk.2) (.int .i64 t849)) (fun _ hk => hk.2) (.int .i64 t850)) (fun _ hk => hk.2) (.slice Ao23 t851.length co23)) (fun _ h_ => h_.1))))) (below_size (by repeat (first | (with_reducible first | exact HB.out | apply below_alloc | apply pw_below_drewN | apply below_drew1 | refine below_set ?_ GE842.out | refine below_set ?_ GE855.out) | exact HB.out)))); have n3_ := Aside0.mk (blk_below (g := gb842) (o := .cells #[.int .i64 a0_0, .int .i64 a0_1, .slice A0_2 l0_2.length c0_2] 36 (0, 0)) (by (with_reducible repeat (first | refine blk_drewN ?_ _ | refine blk_drew ?_ | refine blk_alloc ?_ _)); refine blk_far ?_ NB842_855.out _; (with_reducible repeat (first | refine blk_drewN ?_ _ | refine blk_drew ?_ | refine blk_alloc ?_ _)); refine blk_far ?_ NB842_855.out _; (with_reducible repeat (first | refine blk_drewN ?_ _ | refine blk_drew ?_ | refine blk_alloc ?_ _)); refine blk_far ?_ NB842_855.out _; (with_reducible repeat (first | refine blk_drewN ?_ _ | refine blk_drew ?_ | refine blk_alloc ?_ _)); exact BK842.out) hb); have n4_ := Aside0.mk (blk_below (g := gb855) (o := .cells #[.int .i64 t849, .int .i64 t850, .slice Ao23 t851.length co23] 26 (0, 0)) (by (with_reducible repeat (first | refine blk_drewN ?_ _ | refine blk_drew ?_ | refine blk_alloc ?_ _)); refine blk_put (cs := #[.int .i64 t849, .int .i64 t850, .slice none 0 0]) ?_ 2 _ rfl; (with_reducible repeat (first | refine blk_drewN ?_ _ | refine blk_drew ?_ | refine blk_alloc ?_ _)); refine blk_put (cs := #[.int .i64 t849, .int .i64 0, .slice none 0 0]) ?_ 1 _ rfl; (with_reducible repeat (first | refine blk_drewN ?_ _ | refine blk_drew ?_ | refine blk_alloc ?_ _)); refine blk_put (cs := #[.int .i64 0, .int .i64 0, .slice none 0 0]) ?_ 0 _ rfl; (with_reducible repeat (first | refine blk_drewN ?_ _ | refine blk_drew ?_ | refine blk_alloc ?_ _)); exact BK855.out) hb); have n5_ := Aside0.mk (below_step (by repeat (first | (with_reducible first | exact HB.out | apply below_alloc | apply pw_below_drewN | apply below_drew1 | refine below_set ?_ GE842.out | refine below_set ?_ GE855.out) | exact HB.out)) hb); clear HO848; clear HO853; clear BK842; clear BK855; clear HB; have HO848 := n0_; have HO853 := n1_; have HO860 := n2_; have BK842 := n3_; have BK855 := n4_; have HB := n5_; clear n0_ n1_ n2_ n3_ n4_ n5_; (try clear hb); (try clear hb2); (try clear hk); (try clear hi); (try clear ho0)) | ((with_reducible refine gate_dst (N := 8) rfl ?_); refine box_event ?hg (N := 8) ?hd (cs := #[.int .i64 0, .int .i64 0, .slice none 0 0]) (t := 26) ?hr ?_; (case hd => rfl); (case hg => rfl); (case hr => first | (go_simp; done) | (go_simp; rfl)); intro gb861 hg w26 hbox hb; have n0_ := Aside0.mk (Kd.R_below (by (with_reducible repeat (first | apply Kd.R_alloc | apply Kd.R_drewN | apply Kd.R_drew)); exact HO848.out) hb); have n1_ := Aside0.mk (Kd.R_below (by (with_reducible repeat (first | apply Kd.R_alloc | apply Kd.R_drewN | apply Kd.R_drew)); exact HO853.out) hb); have n2_ := Aside0.mk (Kd.R_below (by (with_reducible repeat (first | apply Kd.R_alloc | apply Kd.R_drewN | apply Kd.R_drew)); exact HO860.out) hb); have n3_ := Aside0.mk (blk_below (g := gb842) (o := .cells #[.int .i64 a0_0, .int .i64 a0_1, .slice A0_2 l0_2.length c0_2] 36 (0, 0)) BK842.out hb); have n4_ := Aside0.mk (blk_below (g := gb855) (o := .cells #[.int .i64 t849, .int .i64 t850, .slice Ao23 t851.length co23] 26 (0, 0)) BK855.out hb); have n5_ := Aside0.mk (below_step (by repeat (first | (with_reducible first | exact HB.out | apply below_alloc | apply pw_below_drewN | apply below_drew1 | refine below_set ?_ GE842.out | refine below_set ?_ GE855.out) | exact HB.out)) hb); have n6_ := Aside0.mk (hbox); have n7_ := Aside0.mk ((by rw [hg]; exact (below_size (by repeat (first | (with_reducible first | exact HB.out | apply below_alloc | apply pw_below_drewN | apply below_drew1 | refine below_set ?_ GE842.out | refine below_set ?_ GE855.out) | exact HB.out))) : w.heap.size ≤ gb861)); have n8_ := Aside0.mk ((by rw [hg]; exact (below_size (by repeat (first | (with_reducible first | exact HB.out | apply below_alloc | apply pw_below_drewN | apply below_drew1 | refine below_set ?_ GE842.out | refine below_set ?_ GE855.out) | exact HB.out))) : w.heap.size ≤ gb861)); have n9_ := Aside0.mk ((by rw [hg]; exact Nat.ne_of_lt (blk_lt (g := gb842) (o := .cells #[.int .i64 a0_0, .int .i64 a0_1, .slice A0_2 l0_2.length c0_2] 36 (0, 0)) BK842.out) : gb842 ≠ gb861)); have n10_ := Aside0.mk ((by rw [hg]; exact Nat.ne_of_gt (blk_lt (g := gb842) (o := .cells #[.int .i64 a0_0, .int .i64 a0_1, .slice A0_2 l0_2.length c0_2] 36 (0, 0)) BK842.out) : gb861 ≠ gb842)); have n11_ := Aside0.mk ((by rw [hg]; exact Nat.ne_of_lt (blk_lt (g := gb855) (o := .cells #[.int .i64 t849, .int .i64 t850, .slice Ao23 t851.length co23] 26 (0, 0)) BK855.out) : gb855 ≠ gb861)); have n12_ := Aside0.mk ((by rw [hg]; exact Nat.ne_of_gt (blk_lt (g := gb855) (o := .cells #[.int .i64 t849, .int .i64 t850, .slice Ao23 t851.length co23] 26 (0, 0)) BK855.out) : gb861 ≠ gb855)); clear HO848; clear HO853; clear HO860; clear BK842; clear BK855; clear HB; have HO848 := n0_; have HO853 := n1_; have HO860 := n2_; have BK842 := n3_; have BK855 := n4_; have HB := n5_; have BK861 := n6_; have GW861 := n7_; have GE861 := n8_; have NB842_861 := n9_; have NB861_842 := n10_; have NB855_861 := n11_; have NB861_855 := n12_; clear n0_ n1_ n2_ n3_ n4_ n5_ n6_ n7_ n8_ n9_ n10_ n11_ n12_; clear hb hbox hg; have hnb27 := NB861_842.out; have hnc27 := NB842_861.out; have hnb28 := NB861_855.out; have hnc28 := NB855_861.out; have hcz29_0 : w26.cell? ⟨gb861, 0, none⟩ = some (.int .i64 0) := (blk_cell BK861.out 0).trans rfl; have hcz29_1 : w26.cell? ⟨gb861, 1, none⟩ = some (.int .i64 0) := (blk_cell BK861.out 1).trans rfl; have hcz29_2 : w26.cell? ⟨gb861, 2, none⟩ = some (.slice none 0 0) := (blk_cell BK861.out 2).trans rfl; have hfz29_0 := blk_frozen BK861.out 0; have hfz29_1 := blk_frozen BK861.out 1; have hfz29_2 := blk_frozen BK861.out 2; obtain ⟨Ao30, co30, eo30⟩ := Kd.R_slice HO860.out; subst eo30) | ((with_reducible refine gate_callee (f := 14) rfl ?_); refine goesL_ (some 33) rfl rfl Try.func14 (by kernel_rfl) rfl #[.agg #[.int .i64 t856, .int .i64 t857, .slice Ao30 t858.length co30], .int .i64 a1] rfl (by (try simp only [List.map_toArray, List.map_cons, List.map_nil]); first | done | rfl | (simp only [List.length_drop, List.length_take]; rfl)) ?_; (with_reducible refine (impl_RaiseSlopes.calls k t856 t857 _ _ t858 a1 t862 t863 t864 t867 _ ?side1 ?side2 A11.out).mono ?_); (case side1 => refine (Kd.R_reads' (e := 3) (base := w.heap.size) (ok := fun k_ => ((True ∧ some k_ ≠ (.slice Ao18 t846.length co18 : Value).ownBlock) ∧ some k_ ≠ (.slice Ao23 t851.length co23 : Value).ownBlock)) (n := t858.length) (c := co30) ?_).2.2; exact (by (with_reducible repeat (first | apply Kd.R_alloc | apply Kd.R_drewN | apply Kd.R_drew)); exact (Kd.R_mono (Kd.R_far (p := ⟨gb861, 2, none⟩) (Kd.R_far (p := ⟨gb861, 1, none⟩) (Kd.R_far (p := ⟨gb861, 0, none⟩) (Kd.R_types HO860.out BK861.out (by decide)) (fun _ hk => hk.2) (.int .i64 t856)) (fun _ hk => hk.2) (.int .i64 t857)) (fun _ hk => hk.2) (.slice Ao30 t858.length co30)) (fun _ h_ => h_.1)))); (case side2 => exact (Kd.R_reads' HO860.out).2.1); rintro e w31 ⟨v865, rfl, ho0, hb⟩; refine ⟨_, rfl, ?_⟩; have n0_ := Aside0.mk (Kd.R_elder' (by (with_reducible repeat (first | apply Kd.R_alloc | apply Kd.R_drewN | apply Kd.R_drew)); exact (Kd.R_mono (Kd.R_far (p := ⟨gb861, 2, none⟩) (Kd.R_far (p := ⟨gb861, 1, none⟩) (Kd.R_far (p := ⟨gb861, 0, none⟩) (Kd.R_types HO848.out BK861.out (by decide)) (fun _ hk => hk.2) (.int .i64 t856)) (fun _ hk => hk.2) (.int .i64 t857)) (fun _ hk => hk.2) (.slice Ao30 t858.length co30)) (fun _ h_ => h_.1))) (Kd.R_base ho0) hb); have n1_ := Aside0.mk (Kd.R_elder' (by (with_reducible repeat (first | apply Kd.R_alloc | apply Kd.R_drewN | apply Kd.R_drew)); exact (Kd.R_mono (Kd.R_far (p := ⟨gb861, 2, none⟩) (Kd.R_far (p := ⟨gb861, 1, none⟩) (Kd.R_far (p := ⟨gb861, 0, none⟩) (Kd.R_types HO853.out BK861.out (by decide)) (fun _ hk => hk.2) (.int .i64 t856)) (fun _ hk => hk.2) (.int .i64 t857)) (fun _ hk => hk.2) (.slice Ao30 t858.length co30)) (fun _ h_ => h_.1))) (Kd.R_base ho0) hb); have n2_ := Aside0.mk (Kd.R_elder' (by (with_reducible repeat (first | apply Kd.R_alloc | apply Kd.R_drewN | apply Kd.R_drew)); exact (Kd.R_mono (Kd.R_far (p := ⟨gb861, 2, none⟩) (Kd.R_far (p := ⟨gb861, 1, none⟩) (Kd.R_far (p := ⟨gb861, 0, none⟩) (Kd.R_types HO860.out BK861.out (by decide)) (fun _ hk => hk.2) (.int .i64 t856)) (fun _ hk => hk.2) (.int .i64 t857)) (fun _ hk => hk.2) (.slice Ao30 t858.length co30)) (fun _ h_ => h_.1))) (Kd.R_base ho0) hb); have n3_ := Aside0.mk (Kd.R_lower (Kd.R_new' (Kd.R_new' (Kd.R_new' ho0 (Kd.R_lt (by (with_reducible repeat (first | apply Kd.R_alloc | apply Kd.R_drewN | apply Kd.R_drew)); exact (Kd.R_mono (Kd.R_far (p := ⟨gb861, 2, none⟩) (Kd.R_far (p := ⟨gb861, 1, none⟩) (Kd.R_far (p := ⟨gb861, 0, none⟩) (Kd.R_types HO848.out BK861.out (by decide)) (fun _ hk => hk.2) (.int .i64 t856)) (fun _ hk => hk.2) (.int .i64 t857)) (fun _ hk => hk.2) (.slice Ao30 t858.length co30)) (fun _ h_ => h_.1))))) (Kd.R_lt (by (with_reducible repeat (first | apply Kd.R_alloc | apply Kd.R_drewN | apply Kd.R_drew)); exact (Kd.R_mono (Kd.R_far (p := ⟨gb861, 2, none⟩) (Kd.R_far (p := ⟨gb861, 1, none⟩) (Kd.R_far (p := ⟨gb861, 0, none⟩) (Kd.R_types HO853.out BK861.out (by decide)) (fun _ hk => hk.2) (.int .i64 t856)) (fun _ hk => hk.2) (.int .i64 t857)) (fun _ hk => hk.2) (.slice Ao30 t858.length co30)) (fun _ h_ => h_.1))))) (Kd.R_lt (by (with_reducible repeat (first | apply Kd.R_alloc | apply Kd.R_drewN | apply Kd.R_drew)); exact (Kd.R_mono (Kd.R_far (p := ⟨gb861, 2, none⟩) (Kd.R_far (p := ⟨gb861, 1, none⟩) (Kd.R_far (p := ⟨gb861, 0, none⟩) (Kd.R_types HO860.out BK861.out (by decide)) (fun _ hk => hk.2) (.int .i64 t856)) (fun _ hk => hk.2) (.int .i64 t857)) (fun _ hk => hk.2) (.slice Ao30 t858.length co30)) (fun _ h_ => h_.1))))) (below_size (by repeat (first | (with_reducible first | exact HB.out | apply below_alloc | apply pw_below_drewN | apply below_drew1 | refine below_set ?_ GE842.out | refine below_set ?_ GE855.out | refine below_set ?_ GE861.out) | exact HB.out)))); have n4_ := Aside0.mk (blk_below (g := gb842) (o := .cells #[.int .i64 a0_0, .int .i64 a0_1, .slice A0_2 l0_2.length c0_2] 36 (0, 0)) (by (with_reducible repeat (first | refine blk_drewN ?_ _ | refine blk_drew ?_ | refine blk_alloc ?_ _)); refine blk_far ?_ NB842_861.out _; (with_reducible repeat (first | refine blk_drewN ?_ _ | refine blk_drew ?_ | refine blk_alloc ?_ _)); refine blk_far ?_ NB842_861.out _; (with_reducible repeat (first | refine blk_drewN ?_ _ | refine blk_drew ?_ | refine blk_alloc ?_ _)); refine blk_far ?_ NB842_861.out _; (with_reducible repeat (first | refine blk_drewN ?_ _ | refine blk_drew ?_ | refine blk_alloc ?_ _)); exact BK842.out) hb); have n5_ := Aside0.mk (blk_below (g := gb855) (o := .cells #[.int .i64 t849, .int .i64 t850, .slice Ao23 t851.length co23] 26 (0, 0)) (by (with_reducible repeat (first | refine blk_drewN ?_ _ | refine blk_drew ?_ | refine blk_alloc ?_ _)); refine blk_far ?_ NB855_861.out _; (with_reducible repeat (first | refine blk_drewN ?_ _ | refine blk_drew ?_ | refine blk_alloc ?_ _)); refine blk_far ?_ NB855_861.out _; (with_reducible repeat (first | refine blk_drewN ?_ _ | refine blk_drew ?_ | refine blk_alloc ?_ _)); refine blk_far ?_ NB855_861.out _; (with_reducible repeat (first | refine blk_drewN ?_ _ | refine blk_drew ?_ | refine blk_alloc ?_ _)); exact BK855.out) hb); have n6_ := Aside0.mk (blk_below (g := gb861) (o := .cells #[.int .i64 t856, .int .i64 t857, .slice Ao30 t858.length co30] 26 (0, 0)) (by (with_reducible repeat (first | refine blk_drewN ?_ _ | refine blk_drew ?_ | refine blk_alloc ?_ _)); refine blk_put (cs := #[.int .i64 t856, .int .i64 t857, .slice none 0 0]) ?_ 2 _ rfl; (with_reducible repeat (first | refine blk_drewN ?_ _ | refine blk_drew ?_ | refine blk_alloc ?_ _)); refine blk_put (cs := #[.int .i64 t856, .int .i64 0, .slice none 0 0]) ?_ 1 _ rfl; (with_reducible repeat (first | refine blk_drewN ?_ _ | refine blk_drew ?_ | refine blk_alloc ?_ _)); refine blk_put (cs := #[.int .i64 0, .int .i64 0, .slice none 0 0]) ?_ 0 _ rfl; (with_reducible repeat (first | refine blk_drewN ?_ _ | refine blk_drew ?_ | refine blk_alloc ?_ _)); exact BK861.out) hb); have n7_ := Aside0.mk (below_step (by repeat (first | (with_reducible first | exact HB.out | apply below_alloc | apply pw_below_drewN | apply below_drew1 | refine below_set ?_ GE842.out | refine below_set ?_ GE855.out | refine below_set ?_ GE861.out) | exact HB.out)) hb); clear HO848; clear HO853; clear HO860; clear BK842; clear BK855; clear BK861; clear HB; have HO848 := n0_; have HO853 := n1_; have HO860 := n2_; have HO866 := n3_; have BK842 := n4_; have BK855 := n5_; have BK861 := n6_; have HB := n7_; clear n0_ n1_ n2_ n3_ n4_ n5_ n6_ n7_; (try clear hb); (try clear hb2); (try clear hk); (try clear hi); (try clear ho0)) | ((with_reducible refine gate_dst (N := 9) rfl ?_); refine box_event ?hg (N := 9) ?hd (cs := #[.int .i64 0, .int .i64 0, .slice none 0 0]) (t := 26) ?hr ?_; (case hd => rfl); (case hg => rfl); (case hr => first | (go_simp; done) | (go_simp; rfl)); intro gb868 hg w32 hbox hb; have n0_ := Aside0.mk (Kd.R_below (by (with_reducible repeat (first | apply Kd.R_alloc | apply Kd.R_drewN | apply Kd.R_drew)); exact HO848.out) hb); have n1_ := Aside0.mk (Kd.R_below (by (with_reducible repeat (first | apply Kd.R_alloc | apply Kd.R_drewN | apply Kd.R_drew)); exact HO853.out) hb); have n2_ := Aside0.mk (Kd.R_below (by (with_reducible repeat (first | apply Kd.R_alloc | apply Kd.R_drewN | apply Kd.R_drew)); exact HO860.out) hb); have n3_ := Aside0.mk (Kd.R_below (by (with_reducible repeat (first | apply Kd.R_alloc | apply Kd.R_drewN | apply Kd.R_drew)); exact HO866.out) hb); have n4_ := Aside0.mk (blk_below (g := gb842) (o := .cells #[.int .i64 a0_0, .int .i64 a0_1, .slice A0_2 l0_2.length c0_2] 36 (0, 0)) BK842.out hb); have n5_ := Aside0.mk (blk_below (g := gb855) (o := .cells #[.int .i64 t849, .int .i64 t850, .slice Ao23 t851.length co23] 26 (0, 0)) BK855.out hb); have n6_ := Aside0.mk (blk_below (g := gb861) (o := .cells #[.int .i64 t856, .int .i64 t857, .slice Ao30 t858.length co30] 26 (0, 0)) BK861.out hb); have n7_ := Aside0.mk (below_step (by repeat (first | (with_reducible first | exact HB.out | apply below_alloc | apply pw_below_drewN | apply below_drew1 | refine below_set ?_ GE842.out | refine below_set ?_ GE855.out | refine below_set ?_ GE861.out) | exact HB.out)) hb); have n8_ := Aside0.mk (hbox); have n9_ := Aside0.mk ((by rw [hg]; exact (below_size (by repeat (first | (with_reducible first | exact HB.out | apply below_alloc | apply pw_below_drewN | apply below_drew1 | refine below_set ?_ GE842.out | refine below_set ?_ GE855.out | refine below_set ?_ GE861.out) | exact HB.out))) : w.heap.size ≤ gb868)); have n10_ := Aside0.mk ((by rw [hg]; exact (below_size (by repeat (first | (with_reducible first | exact HB.out | apply below_alloc | apply pw_below_drewN | apply below_drew1 | refine below_set ?_ GE842.out | refine below_set ?_ GE855.out | refine below_set ?_ GE861.out) | exact HB.out))) : w.heap.size ≤ gb868)); have n11_ := Aside0.mk ((by rw [hg]; exact Nat.ne_of_lt (blk_lt (g := gb842) (o := .cells #[.int .i64 a0_0, .int .i64 a0_1, .slice A0_2 l0_2.length c0_2] 36 (0, 0)) BK842.out) : gb842 ≠ gb868)); have n12_ := Aside0.mk ((by rw [hg]; exact Nat.ne_of_gt (blk_lt (g := gb842) (o := .cells #[.int .i64 a0_0, .int .i64 a0_1, .slice A0_2 l0_2.length c0_2] 36 (0, 0)) BK842.out) : gb868 ≠ gb842)); have n13_ := Aside0.mk ((by rw [hg]; exact Nat.ne_of_lt (blk_lt (g := gb855) (o := .cells #[.int .i64 t849, .int .i64 t850, .slice Ao23 t851.length co23] 26 (0, 0)) BK855.out) : gb855 ≠ gb868)); have n14_ := Aside0.mk ((by rw [hg]; exact Nat.ne_of_gt (blk_lt (g := gb855) (o := .cells #[.int .i64 t849, .int .i64 t850, .slice Ao23 t851.length co23] 26 (0, 0)) BK855.out) : gb868 ≠ gb855)); have n15_ := Aside0.mk ((by rw [hg]; exact Nat.ne_of_lt (blk_lt (g := gb861) (o := .cells #[.int .i64 t856, .int .i64 t857, .slice Ao30 t858.length co30] 26 (0, 0)) BK861.out) : gb861 ≠ gb868)); have n16_ := Aside0.mk ((by rw [hg]; exact Nat.ne_of_gt (blk_lt (g := gb861) (o := .cells #[.int .i64 t856, .int .i64 t857, .slice Ao30 t858.length co30] 26 (0, 0)) BK861.out) : gb868 ≠ gb861)); clear HO848; clear HO853; clear HO860; clear HO866; clear BK842; clear BK855; clear BK861; clear HB; have HO848 := n0_; have HO853 := n1_; have HO860 := n2_; have HO866 := n3_; have BK842 := n4_; have BK855 := n5_; have BK861 := n6_; have HB := n7_; have BK868 := n8_; have GW868 := n9_; have GE868 := n10_; have NB842_868 := n11_; have NB868_842 := n12_; have NB855_868 := n13_; have NB868_855 := n14_; have NB861_868 := n15_; have NB868_861 := n16_; clear n0_ n1_ n2_ n3_ n4_ n5_ n6_ n7_ n8_ n9_ n10_ n11_ n12_ n13_ n14_ n15_ n16_; clear hb hbox hg; have hnb33 := NB868_842.out; have hnc33 := NB842_868.out; have hnb34 := NB868_855.out; have hnc34 := NB855_868.out; have hnb35 := NB868_861.out; have hnc35 := NB861_868.out; have hcz36_0 : w32.cell? ⟨gb868, 0, none⟩ = some (.int .i64 0) := (blk_cell BK868.out 0).trans rfl; have hcz36_1 : w32.cell? ⟨gb868, 1, none⟩ = some (.int .i64 0) := (blk_cell BK868.out 1).trans rfl; have hcz36_2 : w32.cell? ⟨gb868, 2, none⟩ = some (.slice none 0 0) := (blk_cell BK868.out 2).trans rfl; have hfz36_0 := blk_frozen BK868.out 0; have hfz36_1 := blk_frozen BK868.out 1; have hfz36_2 := blk_frozen BK868.out 2; obtain ⟨Ao37, co37, eo37⟩ := Kd.R_slice HO866.out; subst eo37))
    (try simp only [Act.put, List.setIfInBounds_toArray, List.set_cons_zero, List.set_cons_succ])
    go_cut [44] (fun v44 wc => ∃ (kq : Nat) (x44_11 : Bool), v44 = .bool x44_11 ∧ Aside0 (laws_FnExactRaiseSlopes.j0 kq a1 t854 t867 x44_11 a0_0 a0_1 l0_2 t849 t850 t851 t856 t857 t858 t862 t863 t864 = some r) ∧ Aside0 (kq ≤ k) ∧ Aside0 (Kd.R (Kd.int .i64) 3 wc w.heap.size (fun k_ => some k_ ≠ ((.slice Ao30 t858.length co30) : Value).ownBlock ∧ some k_ ≠ ((.slice Ao37 t864.length co37) : Value).ownBlock) (.slice Ao23 t851.length co23) t851) ∧ Aside0 (Kd.R (Kd.int .i64) 3 wc w.heap.size (fun k_ => some k_ ≠ ((.slice Ao23 t851.length co23) : Value).ownBlock ∧ some k_ ≠ ((.slice Ao37 t864.length co37) : Value).ownBlock) (.slice Ao30 t858.length co30) t858) ∧ Aside0 (Kd.R (Kd.int .i64) 3 wc w.heap.size (fun k_ => some k_ ≠ ((.slice Ao23 t851.length co23) : Value).ownBlock ∧ some k_ ≠ ((.slice Ao30 t858.length co30) : Value).ownBlock) (.slice Ao37 t864.length co37) t864) ∧ Aside0 (wc.heap[gb842]? = some (.cells #[.int .i64 a0_0, .int .i64 a0_1, (.slice A0_2 l0_2.length c0_2)] 36 (0, 0))) ∧ Aside0 (wc.heap[gb855]? = some (.cells #[.int .i64 t849, .int .i64 t850, (.slice Ao23 t851.length co23)] 26 (0, 0))) ∧ Aside0 (wc.heap[gb861]? = some (.cells #[.int .i64 t856, .int .i64 t857, (.slice Ao30 t858.length co30)] 26 (0, 0))) ∧ Aside0 (wc.heap[gb868]? = some (.cells #[.int .i64 t862, .int .i64 t863, (.slice Ao37 t864.length co37)] 26 (0, 0))) ∧ Aside0 (Below w.heap.size w wc))
    case first =>
      as_aux_lemma =>
        have H := HC12.out
        clear HC12
        replace H := Option.bind_eq_some_iff.mp H
        obtain ⟨t869, A380, H⟩ := H
        replace H : (if t869 = true then (laws_FnExactRaiseSlopes.j0 k a1 t854 t867 (t867 != t854) a0_0 a0_1 l0_2 t849 t850 t851 t856 t857 t858 t862 t863 t864) else (laws_FnExactRaiseSlopes.j0 k a1 t854 t867 true a0_0 a0_1 l0_2 t849 t850 t851 t856 t857 t858 t862 t863 t864)) = some r := H
        have A38 := Aside0.mk A380
        clear A380
        by_cases c39 : t869 = true
        · subst c39
          have H1 : (laws_FnExactRaiseSlopes.j0 k a1 t854 t867 (t867 != t854) a0_0 a0_1 l0_2 t849 t850 t851 t856 t857 t858 t862 t863 t864) = some r := by rw [if_pos rfl] at H; exact H
          clear H
          have H := H1
          clear H1
          have H' := Aside0.mk H
          clear H
          have hnb40 := NB868_842.out
          have hnc40 := NB842_868.out
          have hnb41 := NB868_855.out
          have hnc41 := NB855_868.out
          have hnb42 := NB868_861.out
          have hnc42 := NB861_868.out
          have hcz43_0 : w32.cell? ⟨gb868, 0, none⟩ = some (.int .i64 0) := (blk_cell BK868.out 0).trans rfl
          have hcz43_1 : w32.cell? ⟨gb868, 1, none⟩ = some (.int .i64 0) := (blk_cell BK868.out 1).trans rfl
          have hcz43_2 : w32.cell? ⟨gb868, 2, none⟩ = some (.slice none 0 0) := (blk_cell BK868.out 2).trans rfl
          have hfz43_0 := blk_frozen BK868.out 0
          have hfz43_1 := blk_frozen BK868.out 1
          have hfz43_2 := blk_frozen BK868.out 2
          have hnb44 := NB855_842.out
          have hnc44 := NB842_855.out
          have hnb45 := NB855_861.out
          have hnc45 := NB861_855.out
          have hcz46_0 : w32.cell? ⟨gb855, 0, none⟩ = some (.int .i64 t849) := (blk_cell BK855.out 0).trans rfl
          have hcz46_1 : w32.cell? ⟨gb855, 1, none⟩ = some (.int .i64 t850) := (blk_cell BK855.out 1).trans rfl
          have hcz46_2 : w32.cell? ⟨gb855, 2, none⟩ = some (.slice Ao23 t851.length co23) := (blk_cell BK855.out 2).trans rfl
          have hfz46_0 := blk_frozen BK855.out 0
          have hfz46_1 := blk_frozen BK855.out 1
          have hfz46_2 := blk_frozen BK855.out 2
          go_wp2_with (first | ((with_reducible refine gate_callee (f := 25) rfl ?_); refine goesL_ (some 38) rfl rfl Try.func25 (by kernel_rfl) rfl #[.agg #[.int .i64 t862, .int .i64 t863, .slice Ao37 t864.length co37], .agg #[.int .i64 t849, .int .i64 t850, .slice Ao23 t851.length co23]] rfl (by (try simp only [List.map_toArray, List.map_cons, List.map_nil]); first | done | rfl | (simp only [List.length_drop, List.length_take]; rfl)) ?_; (with_reducible refine (laws_eqField.calls k t862 t863 _ _ t864 t849 t850 _ _ t851 true _ ?side1 ?side2 ?side3 ?side4 A38.out).mono ?_); (case side1 => refine (Kd.R_reads' (e := 3) (base := w.heap.size) (ok := fun k_ => (((True ∧ some k_ ≠ (.slice Ao18 t846.length co18 : Value).ownBlock) ∧ some k_ ≠ (.slice Ao23 t851.length co23 : Value).ownBlock) ∧ some k_ ≠ (.slice Ao30 t858.length co30 : Value).ownBlock)) (n := t864.length) (c := co37) ?_).2.2; exact (by (with_reducible repeat (first | apply Kd.R_alloc | apply Kd.R_drewN | apply Kd.R_drew)); exact (Kd.R_mono (Kd.R_far (p := ⟨gb868, 2, none⟩) (Kd.R_far (p := ⟨gb868, 1, none⟩) (Kd.R_far (p := ⟨gb868, 0, none⟩) (Kd.R_types HO866.out BK868.out (by decide)) (fun _ hk => hk.2) (.int .i64 t862)) (fun _ hk => hk.2) (.int .i64 t863)) (fun _ hk => hk.2) (.slice Ao37 t864.length co37)) (fun _ h_ => h_.1)))); (case side2 => exact (Kd.R_reads' HO866.out).2.1); (case side3 => refine (Kd.R_reads' (e := 3) (base := w.heap.size) (ok := fun k_ => (((True ∧ some k_ ≠ (.slice Ao18 t846.length co18 : Value).ownBlock) ∧ some k_ ≠ (.slice Ao30 t858.length co30 : Value).ownBlock) ∧ some k_ ≠ (.slice Ao37 t864.length co37 : Value).ownBlock)) (n := t851.length) (c := co23) ?_).2.2; exact (by (with_reducible repeat (first | apply Kd.R_alloc | apply Kd.R_drewN | apply Kd.R_drew)); exact (Kd.R_mono (Kd.R_far (p := ⟨gb868, 2, none⟩) (Kd.R_far (p := ⟨gb868, 1, none⟩) (Kd.R_far (p := ⟨gb868, 0, none⟩) (Kd.R_types HO853.out BK868.out (by decide)) (fun _ hk => hk.2) (.int .i64 t862)) (fun _ hk => hk.2) (.int .i64 t863)) (fun _ hk => hk.2) (.slice Ao37 t864.length co37)) (fun _ h_ => h_.1)))); (case side4 => exact (Kd.R_reads' HO853.out).2.1); rintro e w47 ⟨rfl, hb⟩; refine ⟨_, rfl, ?_⟩; have n0_ := Aside0.mk (Kd.R_below (by (with_reducible repeat (first | apply Kd.R_alloc | apply Kd.R_drewN | apply Kd.R_drew)); exact (Kd.R_mono (Kd.R_far (p := ⟨gb868, 2, none⟩) (Kd.R_far (p := ⟨gb868, 1, none⟩) (Kd.R_far (p := ⟨gb868, 0, none⟩) (Kd.R_types HO848.out BK868.out (by decide)) (fun _ hk => hk.2) (.int .i64 t862)) (fun _ hk => hk.2) (.int .i64 t863)) (fun _ hk => hk.2) (.slice Ao37 t864.length co37)) (fun _ h_ => h_.1))) hb); have n1_ := Aside0.mk (Kd.R_below (by (with_reducible repeat (first | apply Kd.R_alloc | apply Kd.R_drewN | apply Kd.R_drew)); exact (Kd.R_mono (Kd.R_far (p := ⟨gb868, 2, none⟩) (Kd.R_far (p := ⟨gb868, 1, none⟩) (Kd.R_far (p := ⟨gb868, 0, none⟩) (Kd.R_types HO853.out BK868.out (by decide)) (fun _ hk => hk.2) (.int .i64 t862)) (fun _ hk => hk.2) (.int .i64 t863)) (fun _ hk => hk.2) (.slice Ao37 t864.length co37)) (fun _ h_ => h_.1))) hb); have n2_ := Aside0.mk (Kd.R_below (by (with_reducible repeat (first | apply Kd.R_alloc | apply Kd.R_drewN | apply Kd.R_drew)); exact (Kd.R_mono (Kd.R_far (p := ⟨gb868, 2, none⟩) (Kd.R_far (p := ⟨gb868, 1, none⟩) (Kd.R_far (p := ⟨gb868, 0, none⟩) (Kd.R_types HO860.out BK868.out (by decide)) (fun _ hk => hk.2) (.int .i64 t862)) (fun _ hk => hk.2) (.int .i64 t863)) (fun _ hk => hk.2) (.slice Ao37 t864.length co37)) (fun _ h_ => h_.1))) hb); have n3_ := Aside0.mk (Kd.R_below (by (with_reducible repeat (first | apply Kd.R_alloc | apply Kd.R_drewN | apply Kd.R_drew)); exact (Kd.R_mono (Kd.R_far (p := ⟨gb868, 2, none⟩) (Kd.R_far (p := ⟨gb868, 1, none⟩) (Kd.R_far (p := ⟨gb868, 0, none⟩) (Kd.R_types HO866.out BK868.out (by decide)) (fun _ hk => hk.2) (.int .i64 t862)) (fun _ hk => hk.2) (.int .i64 t863)) (fun _ hk => hk.2) (.slice Ao37 t864.length co37)) (fun _ h_ => h_.1))) hb); have n4_ := Aside0.mk (blk_below (g := gb842) (o := .cells #[.int .i64 a0_0, .int .i64 a0_1, .slice A0_2 l0_2.length c0_2] 36 (0, 0)) (by (with_reducible repeat (first | refine blk_drewN ?_ _ | refine blk_drew ?_ | refine blk_alloc ?_ _)); refine blk_far ?_ NB842_868.out _; (with_reducible repeat (first | refine blk_drewN ?_ _ | refine blk_drew ?_ | refine blk_alloc ?_ _)); refine blk_far ?_ NB842_868.out _; (with_reducible repeat (first | refine blk_drewN ?_ _ | refine blk_drew ?_ | refine blk_alloc ?_ _)); refine blk_far ?_ NB842_868.out _; (with_reducible repeat (first | refine blk_drewN ?_ _ | refine blk_drew ?_ | refine blk_alloc ?_ _)); exact BK842.out) hb); have n5_ := Aside0.mk (blk_below (g := gb855) (o := .cells #[.int .i64 t849, .int .i64 t850, .slice Ao23 t851.length co23] 26 (0, 0)) (by (with_reducible repeat (first | refine blk_drewN ?_ _ | refine blk_drew ?_ | refine blk_alloc ?_ _)); refine blk_far ?_ NB855_868.out _; (with_reducible repeat (first | refine blk_drewN ?_ _ | refine blk_drew ?_ | refine blk_alloc ?_ _)); refine blk_far ?_ NB855_868.out _; (with_reducible repeat (first | refine blk_drewN ?_ _ | refine blk_drew ?_ | refine blk_alloc ?_ _)); refine blk_far ?_ NB855_868.out _; (with_reducible repeat (first | refine blk_drewN ?_ _ | refine blk_drew ?_ | refine blk_alloc ?_ _)); exact BK855.out) hb); have n6_ := Aside0.mk (blk_below (g := gb861) (o := .cells #[.int .i64 t856, .int .i64 t857, .slice Ao30 t858.length co30] 26 (0, 0)) (by (with_reducible repeat (first | refine blk_drewN ?_ _ | refine blk_drew ?_ | refine blk_alloc ?_ _)); refine blk_far ?_ NB861_868.out _; (with_reducible repeat (first | refine blk_drewN ?_ _ | refine blk_drew ?_ | refine blk_alloc ?_ _)); refine blk_far ?_ NB861_868.out _; (with_reducible repeat (first | refine blk_drewN ?_ _ | refine blk_drew ?_ | refine blk_alloc ?_ _)); refine blk_far ?_ NB861_868.out _; (with_reducible repeat (first | refine blk_drewN ?_ _ | refine blk_drew ?_ | refine blk_alloc ?_ _)); exact BK861.out) hb); have n7_ := Aside0.mk (blk_below (g := gb868) (o := .cells #[.int .i64 t862, .int .i64 t863, .slice Ao37 t864.length co37] 26 (0, 0)) (by (with_reducible repeat (first | refine blk_drewN ?_ _ | refine blk_drew ?_ | refine blk_alloc ?_ _)); refine blk_put (cs := #[.int .i64 t862, .int .i64 t863, .slice none 0 0]) ?_ 2 _ rfl; (with_reducible repeat (first | refine blk_drewN ?_ _ | refine blk_drew ?_ | refine blk_alloc ?_ _)); refine blk_put (cs := #[.int .i64 t862, .int .i64 0, .slice none 0 0]) ?_ 1 _ rfl; (with_reducible repeat (first | refine blk_drewN ?_ _ | refine blk_drew ?_ | refine blk_alloc ?_ _)); refine blk_put (cs := #[.int .i64 0, .int .i64 0, .slice none 0 0]) ?_ 0 _ rfl; (with_reducible repeat (first | refine blk_drewN ?_ _ | refine blk_drew ?_ | refine blk_alloc ?_ _)); exact BK868.out) hb); have n8_ := Aside0.mk (below_step (by repeat (first | (with_reducible first | exact HB.out | apply below_alloc | apply pw_below_drewN | apply below_drew1 | refine below_set ?_ GE842.out | refine below_set ?_ GE855.out | refine below_set ?_ GE861.out | refine below_set ?_ GE868.out) | exact HB.out)) hb); clear HO848; clear HO853; clear HO860; clear HO866; clear BK842; clear BK855; clear BK861; clear BK868; clear HB; have HO848 := n0_; have HO853 := n1_; have HO860 := n2_; have HO866 := n3_; have BK842 := n4_; have BK855 := n5_; have BK861 := n6_; have BK868 := n7_; have HB := n8_; clear n0_ n1_ n2_ n3_ n4_ n5_ n6_ n7_ n8_; (try clear hb); (try clear hb2); (try clear hk); (try clear hi)))
          go_meet
          case rel => exact ⟨_, ((t867 != t854)), (by first | rfl | (simp; done) | (simp [*]; done)), H', ⟨by first | omega | exact Nat.le_refl _⟩, ⟨by (with_reducible repeat (first | apply Kd.R_alloc | apply Kd.R_drewN | apply Kd.R_drew)); exact Kd.R_mono HO853.out (fun _ hk => ⟨hk.1.2, hk.2⟩)⟩, ⟨by (with_reducible repeat (first | apply Kd.R_alloc | apply Kd.R_drewN | apply Kd.R_drew)); exact Kd.R_mono HO860.out (fun _ hk => ⟨hk.1.2, hk.2⟩)⟩, ⟨by (with_reducible repeat (first | apply Kd.R_alloc | apply Kd.R_drewN | apply Kd.R_drew)); exact Kd.R_mono HO866.out (fun _ hk => ⟨hk.1.2, hk.2⟩)⟩, ⟨by (with_reducible repeat (first | refine blk_drewN ?_ _ | refine blk_drew ?_ | refine blk_alloc ?_ _)); exact BK842.out⟩, ⟨by (with_reducible repeat (first | refine blk_drewN ?_ _ | refine blk_drew ?_ | refine blk_alloc ?_ _)); exact BK855.out⟩, ⟨by (with_reducible repeat (first | refine blk_drewN ?_ _ | refine blk_drew ?_ | refine blk_alloc ?_ _)); exact BK861.out⟩, ⟨by (with_reducible repeat (first | refine blk_drewN ?_ _ | refine blk_drew ?_ | refine blk_alloc ?_ _)); exact BK868.out⟩, ⟨by repeat (first | (with_reducible first | exact HB.out | apply below_alloc | apply pw_below_drewN | apply below_drew1 | refine below_set ?_ GE842.out | refine below_set ?_ GE855.out | refine below_set ?_ GE861.out | refine below_set ?_ GE868.out) | exact HB.out)⟩⟩
        · replace c39 := Bool.eq_false_iff.mpr c39
          subst c39
          have H1 : (laws_FnExactRaiseSlopes.j0 k a1 t854 t867 true a0_0 a0_1 l0_2 t849 t850 t851 t856 t857 t858 t862 t863 t864) = some r := by rw [if_neg (show ¬ (false = true) by decide)] at H; exact H
          clear H
          have H := H1
          clear H1
          have H' := Aside0.mk H
          clear H
          have hnb48 := NB868_842.out
          have hnc48 := NB842_868.out
          have hnb49 := NB868_855.out
          have hnc49 := NB855_868.out
          have hnb50 := NB868_861.out
          have hnc50 := NB861_868.out
          have hcz51_0 : w32.cell? ⟨gb868, 0, none⟩ = some (.int .i64 0) := (blk_cell BK868.out 0).trans rfl
          have hcz51_1 : w32.cell? ⟨gb868, 1, none⟩ = some (.int .i64 0) := (blk_cell BK868.out 1).trans rfl
          have hcz51_2 : w32.cell? ⟨gb868, 2, none⟩ = some (.slice none 0 0) := (blk_cell BK868.out 2).trans rfl
          have hfz51_0 := blk_frozen BK868.out 0
          have hfz51_1 := blk_frozen BK868.out 1
          have hfz51_2 := blk_frozen BK868.out 2
          have hnb52 := NB855_842.out
          have hnc52 := NB842_855.out
          have hnb53 := NB855_861.out
          have hnc53 := NB861_855.out
          have hcz54_0 : w32.cell? ⟨gb855, 0, none⟩ = some (.int .i64 t849) := (blk_cell BK855.out 0).trans rfl
          have hcz54_1 : w32.cell? ⟨gb855, 1, none⟩ = some (.int .i64 t850) := (blk_cell BK855.out 1).trans rfl
          have hcz54_2 : w32.cell? ⟨gb855, 2, none⟩ = some (.slice Ao23 t851.length co23) := (blk_cell BK855.out 2).trans rfl
          have hfz54_0 := blk_frozen BK855.out 0
          have hfz54_1 := blk_frozen BK855.out 1
          have hfz54_2 := blk_frozen BK855.out 2
          go_wp2_with (first | ((with_reducible refine gate_callee (f := 25) rfl ?_); refine goesL_ (some 38) rfl rfl Try.func25 (by kernel_rfl) rfl #[.agg #[.int .i64 t862, .int .i64 t863, .slice Ao37 t864.length co37], .agg #[.int .i64 t849, .int .i64 t850, .slice Ao23 t851.length co23]] rfl (by (try simp only [List.map_toArray, List.map_cons, List.map_nil]); first | done | rfl | (simp only [List.length_drop, List.length_take]; rfl)) ?_; (with_reducible refine (laws_eqField.calls k t862 t863 _ _ t864 t849 t850 _ _ t851 false _ ?side1 ?side2 ?side3 ?side4 A38.out).mono ?_); (case side1 => refine (Kd.R_reads' (e := 3) (base := w.heap.size) (ok := fun k_ => (((True ∧ some k_ ≠ (.slice Ao18 t846.length co18 : Value).ownBlock) ∧ some k_ ≠ (.slice Ao23 t851.length co23 : Value).ownBlock) ∧ some k_ ≠ (.slice Ao30 t858.length co30 : Value).ownBlock)) (n := t864.length) (c := co37) ?_).2.2; exact (by (with_reducible repeat (first | apply Kd.R_alloc | apply Kd.R_drewN | apply Kd.R_drew)); exact (Kd.R_mono (Kd.R_far (p := ⟨gb868, 2, none⟩) (Kd.R_far (p := ⟨gb868, 1, none⟩) (Kd.R_far (p := ⟨gb868, 0, none⟩) (Kd.R_types HO866.out BK868.out (by decide)) (fun _ hk => hk.2) (.int .i64 t862)) (fun _ hk => hk.2) (.int .i64 t863)) (fun _ hk => hk.2) (.slice Ao37 t864.length co37)) (fun _ h_ => h_.1)))); (case side2 => exact (Kd.R_reads' HO866.out).2.1); (case side3 => refine (Kd.R_reads' (e := 3) (base := w.heap.size) (ok := fun k_ => (((True ∧ some k_ ≠ (.slice Ao18 t846.length co18 : Value).ownBlock) ∧ some k_ ≠ (.slice Ao30 t858.length co30 : Value).ownBlock) ∧ some k_ ≠ (.slice Ao37 t864.length co37 : Value).ownBlock)) (n := t851.length) (c := co23) ?_).2.2; exact (by (with_reducible repeat (first | apply Kd.R_alloc | apply Kd.R_drewN | apply Kd.R_drew)); exact (Kd.R_mono (Kd.R_far (p := ⟨gb868, 2, none⟩) (Kd.R_far (p := ⟨gb868, 1, none⟩) (Kd.R_far (p := ⟨gb868, 0, none⟩) (Kd.R_types HO853.out BK868.out (by decide)) (fun _ hk => hk.2) (.int .i64 t862)) (fun _ hk => hk.2) (.int .i64 t863)) (fun _ hk => hk.2) (.slice Ao37 t864.length co37)) (fun _ h_ => h_.1)))); (case side4 => exact (Kd.R_reads' HO853.out).2.1); rintro e w55 ⟨rfl, hb⟩; refine ⟨_, rfl, ?_⟩; have n0_ := Aside0.mk (Kd.R_below (by (with_reducible repeat (first | apply Kd.R_alloc | apply Kd.R_drewN | apply Kd.R_drew)); exact (Kd.R_mono (Kd.R_far (p := ⟨gb868, 2, none⟩) (Kd.R_far (p := ⟨gb868, 1, none⟩) (Kd.R_far (p := ⟨gb868, 0, none⟩) (Kd.R_types HO848.out BK868.out (by decide)) (fun _ hk => hk.2) (.int .i64 t862)) (fun _ hk => hk.2) (.int .i64 t863)) (fun _ hk => hk.2) (.slice Ao37 t864.length co37)) (fun _ h_ => h_.1))) hb); have n1_ := Aside0.mk (Kd.R_below (by (with_reducible repeat (first | apply Kd.R_alloc | apply Kd.R_drewN | apply Kd.R_drew)); exact (Kd.R_mono (Kd.R_far (p := ⟨gb868, 2, none⟩) (Kd.R_far (p := ⟨gb868, 1, none⟩) (Kd.R_far (p := ⟨gb868, 0, none⟩) (Kd.R_types HO853.out BK868.out (by decide)) (fun _ hk => hk.2) (.int .i64 t862)) (fun _ hk => hk.2) (.int .i64 t863)) (fun _ hk => hk.2) (.slice Ao37 t864.length co37)) (fun _ h_ => h_.1))) hb); have n2_ := Aside0.mk (Kd.R_below (by (with_reducible repeat (first | apply Kd.R_alloc | apply Kd.R_drewN | apply Kd.R_drew)); exact (Kd.R_mono (Kd.R_far (p := ⟨gb868, 2, none⟩) (Kd.R_far (p := ⟨gb868, 1, none⟩) (Kd.R_far (p := ⟨gb868, 0, none⟩) (Kd.R_types HO860.out BK868.out (by decide)) (fun _ hk => hk.2) (.int .i64 t862)) (fun _ hk => hk.2) (.int .i64 t863)) (fun _ hk => hk.2) (.slice Ao37 t864.length co37)) (fun _ h_ => h_.1))) hb); have n3_ := Aside0.mk (Kd.R_below (by (with_reducible repeat (first | apply Kd.R_alloc | apply Kd.R_drewN | apply Kd.R_drew)); exact (Kd.R_mono (Kd.R_far (p := ⟨gb868, 2, none⟩) (Kd.R_far (p := ⟨gb868, 1, none⟩) (Kd.R_far (p := ⟨gb868, 0, none⟩) (Kd.R_types HO866.out BK868.out (by decide)) (fun _ hk => hk.2) (.int .i64 t862)) (fun _ hk => hk.2) (.int .i64 t863)) (fun _ hk => hk.2) (.slice Ao37 t864.length co37)) (fun _ h_ => h_.1))) hb); have n4_ := Aside0.mk (blk_below (g := gb842) (o := .cells #[.int .i64 a0_0, .int .i64 a0_1, .slice A0_2 l0_2.length c0_2] 36 (0, 0)) (by (with_reducible repeat (first | refine blk_drewN ?_ _ | refine blk_drew ?_ | refine blk_alloc ?_ _)); refine blk_far ?_ NB842_868.out _; (with_reducible repeat (first | refine blk_drewN ?_ _ | refine blk_drew ?_ | refine blk_alloc ?_ _)); refine blk_far ?_ NB842_868.out _; (with_reducible repeat (first | refine blk_drewN ?_ _ | refine blk_drew ?_ | refine blk_alloc ?_ _)); refine blk_far ?_ NB842_868.out _; (with_reducible repeat (first | refine blk_drewN ?_ _ | refine blk_drew ?_ | refine blk_alloc ?_ _)); exact BK842.out) hb); have n5_ := Aside0.mk (blk_below (g := gb855) (o := .cells #[.int .i64 t849, .int .i64 t850, .slice Ao23 t851.length co23] 26 (0, 0)) (by (with_reducible repeat (first | refine blk_drewN ?_ _ | refine blk_drew ?_ | refine blk_alloc ?_ _)); refine blk_far ?_ NB855_868.out _; (with_reducible repeat (first | refine blk_drewN ?_ _ | refine blk_drew ?_ | refine blk_alloc ?_ _)); refine blk_far ?_ NB855_868.out _; (with_reducible repeat (first | refine blk_drewN ?_ _ | refine blk_drew ?_ | refine blk_alloc ?_ _)); refine blk_far ?_ NB855_868.out _; (with_reducible repeat (first | refine blk_drewN ?_ _ | refine blk_drew ?_ | refine blk_alloc ?_ _)); exact BK855.out) hb); have n6_ := Aside0.mk (blk_below (g := gb861) (o := .cells #[.int .i64 t856, .int .i64 t857, .slice Ao30 t858.length co30] 26 (0, 0)) (by (with_reducible repeat (first | refine blk_drewN ?_ _ | refine blk_drew ?_ | refine blk_alloc ?_ _)); refine blk_far ?_ NB861_868.out _; (with_reducible repeat (first | refine blk_drewN ?_ _ | refine blk_drew ?_ | refine blk_alloc ?_ _)); refine blk_far ?_ NB861_868.out _; (with_reducible repeat (first | refine blk_drewN ?_ _ | refine blk_drew ?_ | refine blk_alloc ?_ _)); refine blk_far ?_ NB861_868.out _; (with_reducible repeat (first | refine blk_drewN ?_ _ | refine blk_drew ?_ | refine blk_alloc ?_ _)); exact BK861.out) hb); have n7_ := Aside0.mk (blk_below (g := gb868) (o := .cells #[.int .i64 t862, .int .i64 t863, .slice Ao37 t864.length co37] 26 (0, 0)) (by (with_reducible repeat (first | refine blk_drewN ?_ _ | refine blk_drew ?_ | refine blk_alloc ?_ _)); refine blk_put (cs := #[.int .i64 t862, .int .i64 t863, .slice none 0 0]) ?_ 2 _ rfl; (with_reducible repeat (first | refine blk_drewN ?_ _ | refine blk_drew ?_ | refine blk_alloc ?_ _)); refine blk_put (cs := #[.int .i64 t862, .int .i64 0, .slice none 0 0]) ?_ 1 _ rfl; (with_reducible repeat (first | refine blk_drewN ?_ _ | refine blk_drew ?_ | refine blk_alloc ?_ _)); refine blk_put (cs := #[.int .i64 0, .int .i64 0, .slice none 0 0]) ?_ 0 _ rfl; (with_reducible repeat (first | refine blk_drewN ?_ _ | refine blk_drew ?_ | refine blk_alloc ?_ _)); exact BK868.out) hb); have n8_ := Aside0.mk (below_step (by repeat (first | (with_reducible first | exact HB.out | apply below_alloc | apply pw_below_drewN | apply below_drew1 | refine below_set ?_ GE842.out | refine below_set ?_ GE855.out | refine below_set ?_ GE861.out | refine below_set ?_ GE868.out) | exact HB.out)) hb); clear HO848; clear HO853; clear HO860; clear HO866; clear BK842; clear BK855; clear BK861; clear BK868; clear HB; have HO848 := n0_; have HO853 := n1_; have HO860 := n2_; have HO866 := n3_; have BK842 := n4_; have BK855 := n5_; have BK861 := n6_; have BK868 := n7_; have HB := n8_; clear n0_ n1_ n2_ n3_ n4_ n5_ n6_ n7_ n8_; (try clear hb); (try clear hb2); (try clear hk); (try clear hi)))
          go_meet
          case rel => exact ⟨_, (true), (by first | rfl | (simp; done) | (simp [*]; done)), H', ⟨by first | omega | exact Nat.le_refl _⟩, ⟨by (with_reducible repeat (first | apply Kd.R_alloc | apply Kd.R_drewN | apply Kd.R_drew)); exact Kd.R_mono HO853.out (fun _ hk => ⟨hk.1.2, hk.2⟩)⟩, ⟨by (with_reducible repeat (first | apply Kd.R_alloc | apply Kd.R_drewN | apply Kd.R_drew)); exact Kd.R_mono HO860.out (fun _ hk => ⟨hk.1.2, hk.2⟩)⟩, ⟨by (with_reducible repeat (first | apply Kd.R_alloc | apply Kd.R_drewN | apply Kd.R_drew)); exact Kd.R_mono HO866.out (fun _ hk => ⟨hk.1.2, hk.2⟩)⟩, ⟨by (with_reducible repeat (first | refine blk_drewN ?_ _ | refine blk_drew ?_ | refine blk_alloc ?_ _)); exact BK842.out⟩, ⟨by (with_reducible repeat (first | refine blk_drewN ?_ _ | refine blk_drew ?_ | refine blk_alloc ?_ _)); exact BK855.out⟩, ⟨by (with_reducible repeat (first | refine blk_drewN ?_ _ | refine blk_drew ?_ | refine blk_alloc ?_ _)); exact BK861.out⟩, ⟨by (with_reducible repeat (first | refine blk_drewN ?_ _ | refine blk_drew ?_ | refine blk_alloc ?_ _)); exact BK868.out⟩, ⟨by repeat (first | (with_reducible first | exact HB.out | apply below_alloc | apply pw_below_drewN | apply below_drew1 | refine below_set ?_ GE842.out | refine below_set ?_ GE855.out | refine below_set ?_ GE861.out | refine below_set ?_ GE868.out) | exact HB.out)⟩⟩
    case rest =>
      as_aux_lemma =>
        clear HC12
        try clear c1
        try clear c2
        try clear p2
        try clear c3
        try clear c4
        try clear c4b0
        try clear c5
        try clear c7
        try clear c14
        try clear c17
        try clear c20
        try clear c21
        try clear c22
        try clear c25
        try clear c27
        try clear c28
        try clear c33
        try clear c34
        try clear c35
        try clear c39
        try clear c40
        try clear c41
        try clear c42
        try clear c44
        try clear c45
        try clear c48
        try clear c49
        try clear c50
        try clear c52
        try clear c53
        try clear hcz14_0
        try clear hcz14_1
        try clear hcz14_2
        try clear hcz16_0
        try clear hcz16_1
        try clear hcz16_2
        try clear hcz22_0
        try clear hcz22_1
        try clear hcz22_2
        try clear hcz24_0
        try clear hcz24_1
        try clear hcz24_2
        try clear hcz29_0
        try clear hcz29_1
        try clear hcz29_2
        try clear hcz36_0
        try clear hcz36_1
        try clear hcz36_2
        try clear hcz43_0
        try clear hcz43_1
        try clear hcz43_2
        try clear hcz46_0
        try clear hcz46_1
        try clear hcz46_2
        try clear hcz51_0
        try clear hcz51_1
        try clear hcz51_2
        try clear hcz54_0
        try clear hcz54_1
        try clear hcz54_2
        try clear hcz6_0
        try clear hcz6_1
        try clear hcz6_2
        try clear hfz14_0
        try clear hfz14_1
        try clear hfz14_2
        try clear hfz16_0
        try clear hfz16_1
        try clear hfz16_2
        try clear hfz22_0
        try clear hfz22_1
        try clear hfz22_2
        try clear hfz24_0
        try clear hfz24_1
        try clear hfz24_2
        try clear hfz29_0
        try clear hfz29_1
        try clear hfz29_2
        try clear hfz36_0
        try clear hfz36_1
        try clear hfz36_2
        try clear hfz43_0
        try clear hfz43_1
        try clear hfz43_2
        try clear hfz46_0
        try clear hfz46_1
        try clear hfz46_2
        try clear hfz51_0
        try clear hfz51_1
        try clear hfz51_2
        try clear hfz54_0
        try clear hfz54_1
        try clear hfz54_2
        try clear hfz6_0
        try clear hfz6_1
        try clear hfz6_2
        obtain ⟨kq, x44_11, rfl, HA, HJ11, HO_856002, HO_862002, HO_869002, BK842, BK855, BK861, BK868, HB⟩ := hcut
        cases kq with
        | zero => exact absurd HA.out (by simp [laws_FnExactRaiseSlopes.j0])
        | succ kj11 =>
          have H := HA.out
          clear HA
          simp only [laws_FnExactRaiseSlopes.j0] at H
          by_cases c56 : x44_11 = true
          · subst c56
            have H1 : (some false) = some r := by rw [if_pos rfl] at H; exact H
            exact absurd ((Option.some.inj H1).trans hrt_) (by decide)
          · replace c56 := Bool.eq_false_iff.mpr c56
            subst c56
            have H1 : ((laws_toField.f kj11 a0_0 a0_1 l0_2).bind fun bt870 => ((laws_eqField.f kj11 t856 t857 t858 bt870.1 bt870.2.1 bt870.2.2).bind fun t875 => (if t875 = true then ((laws_markField.f kj11 t856 t857 t858 1).bind fun bt876 => (if bt876.1 < 0 then (laws_FnExactRaiseSlopes.j1 kj11 a1 t854 true a0_0 a0_1 l0_2 t849 t850 t851 t862 t863 t864) else ((laws_eqField.f kj11 t862 t863 t864 t849 t850 t851).bind fun t878 => (if t878 = true then (laws_FnExactRaiseSlopes.j1 kj11 a1 t854 (t867 != t854) a0_0 a0_1 l0_2 t849 t850 t851 t862 t863 t864) else (laws_FnExactRaiseSlopes.j1 kj11 a1 t854 true a0_0 a0_1 l0_2 t849 t850 t851 t862 t863 t864))))) else (some false)))) = some r := by rw [if_neg (show ¬ (false = true) by decide)] at H; exact H
            clear H
            have H := H1
            clear H1
            replace H := Option.bind_eq_some_iff.mp H
            obtain ⟨⟨t870, t871, t872⟩, A570, H⟩ := H
            replace H : ((laws_eqField.f kj11 t856 t857 t858 t870 t871 t872).bind fun t875 => (if t875 = true then ((laws_markField.f kj11 t856 t857 t858 1).bind fun bt876 => (if bt876.1 < 0 then (laws_FnExactRaiseSlopes.j1 kj11 a1 t854 true a0_0 a0_1 l0_2 t849 t850 t851 t862 t863 t864) else ((laws_eqField.f kj11 t862 t863 t864 t849 t850 t851).bind fun t878 => (if t878 = true then (laws_FnExactRaiseSlopes.j1 kj11 a1 t854 (t867 != t854) a0_0 a0_1 l0_2 t849 t850 t851 t862 t863 t864) else (laws_FnExactRaiseSlopes.j1 kj11 a1 t854 true a0_0 a0_1 l0_2 t849 t850 t851 t862 t863 t864))))) else (some false))) = some r := H
            have A57 := Aside0.mk A570
            clear A570
            replace H := Option.bind_eq_some_iff.mp H
            obtain ⟨t875, A580, H⟩ := H
            replace H : (if t875 = true then ((laws_markField.f kj11 t856 t857 t858 1).bind fun bt876 => (if bt876.1 < 0 then (laws_FnExactRaiseSlopes.j1 kj11 a1 t854 true a0_0 a0_1 l0_2 t849 t850 t851 t862 t863 t864) else ((laws_eqField.f kj11 t862 t863 t864 t849 t850 t851).bind fun t878 => (if t878 = true then (laws_FnExactRaiseSlopes.j1 kj11 a1 t854 (t867 != t854) a0_0 a0_1 l0_2 t849 t850 t851 t862 t863 t864) else (laws_FnExactRaiseSlopes.j1 kj11 a1 t854 true a0_0 a0_1 l0_2 t849 t850 t851 t862 t863 t864))))) else (some false)) = some r := H
            have A58 := Aside0.mk A580
            clear A580
            by_cases c59 : t875 = true
            · subst c59
              have H1 : ((laws_markField.f kj11 t856 t857 t858 1).bind fun bt876 => (if bt876.1 < 0 then (laws_FnExactRaiseSlopes.j1 kj11 a1 t854 true a0_0 a0_1 l0_2 t849 t850 t851 t862 t863 t864) else ((laws_eqField.f kj11 t862 t863 t864 t849 t850 t851).bind fun t878 => (if t878 = true then (laws_FnExactRaiseSlopes.j1 kj11 a1 t854 (t867 != t854) a0_0 a0_1 l0_2 t849 t850 t851 t862 t863 t864) else (laws_FnExactRaiseSlopes.j1 kj11 a1 t854 true a0_0 a0_1 l0_2 t849 t850 t851 t862 t863 t864))))) = some r := by rw [if_pos rfl] at H; exact H
              clear H
              have H := H1
              clear H1
              replace H := Option.bind_eq_some_iff.mp H
              obtain ⟨⟨t876, t877⟩, A600, H⟩ := H
              replace H : (if t876 < 0 then (laws_FnExactRaiseSlopes.j1 kj11 a1 t854 true a0_0 a0_1 l0_2 t849 t850 t851 t862 t863 t864) else ((laws_eqField.f kj11 t862 t863 t864 t849 t850 t851).bind fun t878 => (if t878 = true then (laws_FnExactRaiseSlopes.j1 kj11 a1 t854 (t867 != t854) a0_0 a0_1 l0_2 t849 t850 t851 t862 t863 t864) else (laws_FnExactRaiseSlopes.j1 kj11 a1 t854 true a0_0 a0_1 l0_2 t849 t850 t851 t862 t863 t864)))) = some r := H
              have A60 := Aside0.mk A600
              clear A600
              have HC61 := Aside0.mk H
              clear H
              try go_wp2
              have n0_ := Aside0.mk (Kd.R_drew HO_856002.out)
              have n1_ := Aside0.mk (Kd.R_drew HO_862002.out)
              have n2_ := Aside0.mk (Kd.R_drew HO_869002.out)
              have n3_ := Aside0.mk (blk_drew BK842.out)
              have n4_ := Aside0.mk (blk_drew BK855.out)
              have n5_ := Aside0.mk (blk_drew BK861.out)
              have n6_ := Aside0.mk (blk_drew BK868.out)
              have n7_ := Aside0.mk (below_drew1 HB.out)
              clear HO_856002
              clear HO_862002
              clear HO_869002
              clear BK842
              clear BK855
              clear BK861
              clear BK868
              clear HB
              have HO_856002 := n0_
              have HO_862002 := n1_
              have HO_869002 := n2_
              have BK842 := n3_
              have BK855 := n4_
              have BK861 := n5_
              have BK868 := n6_
              have HB := n7_
              clear n0_ n1_ n2_ n3_ n4_ n5_ n6_ n7_
              refine start_ (n := 5) (S := fun w' => w'.cell? ⟨gb861, 0, none⟩ = some (.int .i64 t856) ∧ w'.cell? ⟨gb861, 1, none⟩ = some (.int .i64 t857) ∧ w'.cell? ⟨gb861, 2, none⟩ = some (.slice Ao30 t858.length co30) ∧ w'.cell? ⟨gb842, 0, none⟩ = some (.int .i64 a0_0) ∧ w'.cell? ⟨gb842, 1, none⟩ = some (.int .i64 a0_1) ∧ w'.cell? ⟨gb842, 2, none⟩ = some (.slice A0_2 l0_2.length c0_2)) (ds := []) #[false, false, false, false, false] (by kernel_rfl) rfl rfl ⟨(blk_cell BK861.out 0).trans rfl, (blk_cell BK861.out 1).trans rfl, (blk_cell BK861.out 2).trans rfl, (blk_cell BK842.out 0).trans rfl, (blk_cell BK842.out 1).trans rfl, (blk_cell BK842.out 2).trans rfl⟩ (fun hHeld => ?_)
              generalize wc.drew = w62 at HO_856002 HO_862002 HO_869002 BK842 BK855 BK861 BK868 HB hHeld ⊢
              refine take_ (i := 0) (N := some 45) (v := ?_) (a' := ?_) #[true, false, false, false, false] rfl rfl (by kernel_rfl) (fun _ _ _ h => h) (Or.inl ⟨by rfl, ?_⟩) hHeld ?_ ?_
              rotate_left
              · rintro w' ⟨s0, s1, s2, s3, s4, s5⟩
                go_simp
                with_reducible rfl
              rotate_left
              · simp only [Act.put, List.setIfInBounds_toArray, List.set_cons_zero, List.set_cons_succ, i64_w, i32_w]
                rfl
              refine take_ (i := 1) (N := some 46) (v := ?_) (a' := ?_) #[true, true, false, false, false] rfl rfl (by kernel_rfl) (fun _ _ _ h => h) (Or.inl ⟨by rfl, ?_⟩) hHeld ?_ ?_
              rotate_left
              · rintro w' ⟨s0, s1, s2, s3, s4, s5⟩
                go_simp
                with_reducible rfl
              rotate_left
              · simp only [Act.put, List.setIfInBounds_toArray, List.set_cons_zero, List.set_cons_succ, i64_w, i32_w]
                rfl
              refine one_ (i := 2) (N := some 47) #[true, true, true, false, false] rfl rfl (by kernel_rfl) (by decide) (fun K hK => ?_)
              refine goes_ Try.func22 (by kernel_rfl) rfl #[.agg #[.int .i64 a0_0, .int .i64 a0_1, .slice A0_2 l0_2.length c0_2]] (by rfl) rfl rfl (by (try simp only [List.map_toArray, List.map_cons, List.map_nil]); first | done | rfl | (simp only [List.length_drop, List.length_take]; rfl)) ?_
              with_reducible refine (laws_toField.calls kj11 a0_0 a0_1 _ _ l0_2 t870 t871 t872 _ ?side1 ?side2 A57.out).mono ?_
              (case side1 => repeat (first | exact (Kd.C_below HR0_2.out HB.out) | (with_reducible refine Kd.C_alloc ?_ _) | (with_reducible refine Kd.C_drewN ?_ _) | (with_reducible refine Kd.C_drew ?_)))
              (case side2 => exact HC0_2.out)
              rintro e w63 ⟨v873, rfl, ho0, hb⟩
              refine ⟨_, rfl, ?_⟩
              have n0_ := Aside0.mk (Kd.R_elder' (by (with_reducible repeat (first | apply Kd.R_alloc | apply Kd.R_drewN | apply Kd.R_drew)); exact HO_856002.out) (Kd.R_base ho0) hb)
              have n1_ := Aside0.mk (Kd.R_elder' (by (with_reducible repeat (first | apply Kd.R_alloc | apply Kd.R_drewN | apply Kd.R_drew)); exact HO_862002.out) (Kd.R_base ho0) hb)
              have n2_ := Aside0.mk (Kd.R_elder' (by (with_reducible repeat (first | apply Kd.R_alloc | apply Kd.R_drewN | apply Kd.R_drew)); exact HO_869002.out) (Kd.R_base ho0) hb)
              have n3_ := Aside0.mk (Kd.R_lower (Kd.R_new' (Kd.R_new' (Kd.R_new' ho0 (Kd.R_lt (by (with_reducible repeat (first | apply Kd.R_alloc | apply Kd.R_drewN | apply Kd.R_drew)); exact HO_856002.out))) (Kd.R_lt (by (with_reducible repeat (first | apply Kd.R_alloc | apply Kd.R_drewN | apply Kd.R_drew)); exact HO_862002.out))) (Kd.R_lt (by (with_reducible repeat (first | apply Kd.R_alloc | apply Kd.R_drewN | apply Kd.R_drew)); exact HO_869002.out))) (below_size (by repeat (first | (with_reducible first | exact HB.out | apply below_alloc | apply pw_below_drewN | apply below_drew1 | refine below_set ?_ GE842.out | refine below_set ?_ GE855.out | refine below_set ?_ GE861.out | refine below_set ?_ GE868.out) | exact HB.out))))
              have n4_ := Aside0.mk (blk_below (g := gb842) (o := .cells #[.int .i64 a0_0, .int .i64 a0_1, .slice A0_2 l0_2.length c0_2] 36 (0, 0)) BK842.out hb)
              have n5_ := Aside0.mk (blk_below (g := gb855) (o := .cells #[.int .i64 t849, .int .i64 t850, .slice Ao23 t851.length co23] 26 (0, 0)) BK855.out hb)
              have n6_ := Aside0.mk (blk_below (g := gb861) (o := .cells #[.int .i64 t856, .int .i64 t857, .slice Ao30 t858.length co30] 26 (0, 0)) BK861.out hb)
              have n7_ := Aside0.mk (blk_below (g := gb868) (o := .cells #[.int .i64 t862, .int .i64 t863, .slice Ao37 t864.length co37] 26 (0, 0)) BK868.out hb)
              have n8_ := Aside0.mk (below_step (by repeat (first | (with_reducible first | exact HB.out | apply below_alloc | apply pw_below_drewN | apply below_drew1 | refine below_set ?_ GE842.out | refine below_set ?_ GE855.out | refine below_set ?_ GE861.out | refine below_set ?_ GE868.out) | exact HB.out)) hb)
              clear HO_856002
              clear HO_862002
              clear HO_869002
              clear BK842
              clear BK855
              clear BK861
              clear BK868
              clear HB
              have HO_856002 := n0_
              have HO_862002 := n1_
              have HO_869002 := n2_
              have HO874 := n3_
              have BK842 := n4_
              have BK855 := n5_
              have BK861 := n6_
              have BK868 := n7_
              have HB := n8_
              clear n0_ n1_ n2_ n3_ n4_ n5_ n6_ n7_ n8_
              (try clear hb)
              (try clear hb2)
              (try clear hk)
              (try clear hi)
              (try clear ho0)
              obtain ⟨Ao64, co64, eo64⟩ := Kd.R_slice HO874.out
              (first | subst eo64 | (injection eo64 with f1_ f2_ f3_; have f4_ := f1_.symm; have f5_ := f3_.symm; clear f1_ f2_ f3_; subst f4_; subst f5_))
              refine hK.out _ _ ⟨(blk_cell BK861.out 0).trans rfl, (blk_cell BK861.out 1).trans rfl, (blk_cell BK861.out 2).trans rfl, (blk_cell BK842.out 0).trans rfl, (blk_cell BK842.out 1).trans rfl, (blk_cell BK842.out 2).trans rfl⟩ (fun hHeld => ?_)
              clear hK K
              refine norm_ (a' := ?_) ?_ ?_
              rotate_left
              · show Act.put _ (some 47) _ = _
                simp only [Act.put, List.setIfInBounds_toArray, List.set_cons_zero, List.set_cons_succ, i64_w, i32_w]
                rfl
              refine one_ (i := 3) (N := some 48) #[true, true, true, true, false] rfl rfl (by kernel_rfl) (by decide) (fun K hK => ?_)
              refine goes_ Try.func25 (by kernel_rfl) rfl #[.agg #[.int .i64 t856, .int .i64 t857, .slice Ao30 t858.length co30], .agg #[.int .i64 t870, .int .i64 t871, .slice Ao64 t872.length co64]] (by rfl) rfl rfl (by (try simp only [List.map_toArray, List.map_cons, List.map_nil]); first | done | rfl | (simp only [List.length_drop, List.length_take]; rfl)) ?_
              with_reducible refine (laws_eqField.calls kj11 t856 t857 _ _ t858 t870 t871 _ _ t872 true _ ?side1 ?side2 ?side3 ?side4 A58.out).mono ?_
              (case side1 => repeat (first | exact (Kd.R_reads' HO_862002.out).2.2 | (with_reducible refine Kd.C_alloc ?_ _) | (with_reducible refine Kd.C_drewN ?_ _) | (with_reducible refine Kd.C_drew ?_)))
              (case side2 => exact (Kd.R_reads' HO_862002.out).2.1)
              (case side3 => repeat (first | exact (Kd.R_reads' HO874.out).2.2 | (with_reducible refine Kd.C_alloc ?_ _) | (with_reducible refine Kd.C_drewN ?_ _) | (with_reducible refine Kd.C_drew ?_)))
              (case side4 => exact (Kd.R_reads' HO874.out).2.1)
              rintro e w65 ⟨rfl, hb⟩
              refine ⟨_, rfl, ?_⟩
              have n0_ := Aside0.mk (Kd.R_below (by (with_reducible repeat (first | apply Kd.R_alloc | apply Kd.R_drewN | apply Kd.R_drew)); exact HO_856002.out) hb)
              have n1_ := Aside0.mk (Kd.R_below (by (with_reducible repeat (first | apply Kd.R_alloc | apply Kd.R_drewN | apply Kd.R_drew)); exact HO_862002.out) hb)
              have n2_ := Aside0.mk (Kd.R_below (by (with_reducible repeat (first | apply Kd.R_alloc | apply Kd.R_drewN | apply Kd.R_drew)); exact HO_869002.out) hb)
              have n3_ := Aside0.mk (Kd.R_below (by (with_reducible repeat (first | apply Kd.R_alloc | apply Kd.R_drewN | apply Kd.R_drew)); exact HO874.out) hb)
              have n4_ := Aside0.mk (blk_below (g := gb842) (o := .cells #[.int .i64 a0_0, .int .i64 a0_1, .slice A0_2 l0_2.length c0_2] 36 (0, 0)) BK842.out hb)
              have n5_ := Aside0.mk (blk_below (g := gb855) (o := .cells #[.int .i64 t849, .int .i64 t850, .slice Ao23 t851.length co23] 26 (0, 0)) BK855.out hb)
              have n6_ := Aside0.mk (blk_below (g := gb861) (o := .cells #[.int .i64 t856, .int .i64 t857, .slice Ao30 t858.length co30] 26 (0, 0)) BK861.out hb)
              have n7_ := Aside0.mk (blk_below (g := gb868) (o := .cells #[.int .i64 t862, .int .i64 t863, .slice Ao37 t864.length co37] 26 (0, 0)) BK868.out hb)
              have n8_ := Aside0.mk (below_step (by repeat (first | (with_reducible first | exact HB.out | apply below_alloc | apply pw_below_drewN | apply below_drew1 | refine below_set ?_ GE842.out | refine below_set ?_ GE855.out | refine below_set ?_ GE861.out | refine below_set ?_ GE868.out) | exact HB.out)) hb)
              clear HO_856002
              clear HO_862002
              clear HO_869002
              clear HO874
              clear BK842
              clear BK855
              clear BK861
              clear BK868
              clear HB
              have HO_856002 := n0_
              have HO_862002 := n1_
              have HO_869002 := n2_
              have HO874 := n3_
              have BK842 := n4_
              have BK855 := n5_
              have BK861 := n6_
              have BK868 := n7_
              have HB := n8_
              clear n0_ n1_ n2_ n3_ n4_ n5_ n6_ n7_ n8_
              (try clear hb)
              (try clear hb2)
              (try clear hk)
              (try clear hi)
              refine hK.out _ _ ⟨(blk_cell BK861.out 0).trans rfl, (blk_cell BK861.out 1).trans rfl, (blk_cell BK861.out 2).trans rfl, (blk_cell BK842.out 0).trans rfl, (blk_cell BK842.out 1).trans rfl, (blk_cell BK842.out 2).trans rfl⟩ (fun hHeld => ?_)
              clear hK K
              refine norm_ (a' := ?_) ?_ ?_
              rotate_left
              · show Act.put _ (some 48) _ = _
                simp only [Act.put, List.setIfInBounds_toArray, List.set_cons_zero, List.set_cons_succ, i64_w, i32_w]
                rfl
              refine pure_ (i := 4) (N := some 49) (v := ?_) (a' := ?_) #[true, true, true, true, true] rfl rfl (by kernel_rfl) (fun _ _ _ h => h) (Or.inl ⟨by rfl, ?_⟩) ?_ ?_
              rotate_left
              · intro w'
                go_simp
                with_reducible rfl
              rotate_left
              · simp only [Act.put, List.setIfInBounds_toArray, List.set_cons_zero, List.set_cons_succ, i64_w, i32_w]
                rfl
              refine done_ (by kernel_rfl) ?_
              have hnb66 := NB861_842.out
              have hnc66 := NB842_861.out
              have hnb67 := NB861_855.out
              have hnc67 := NB855_861.out
              have hnb68 := NB861_868.out
              have hnc68 := NB868_861.out
              have hcz69_0 : w65.cell? ⟨gb861, 0, none⟩ = some (.int .i64 t856) := (blk_cell BK861.out 0).trans rfl
              have hcz69_1 : w65.cell? ⟨gb861, 1, none⟩ = some (.int .i64 t857) := (blk_cell BK861.out 1).trans rfl
              have hcz69_2 : w65.cell? ⟨gb861, 2, none⟩ = some (.slice Ao30 t858.length co30) := (blk_cell BK861.out 2).trans rfl
              have hfz69_0 := blk_frozen BK861.out 0
              have hfz69_1 := blk_frozen BK861.out 1
              have hfz69_2 := blk_frozen BK861.out 2
              go_upto_region 14 with (first | ((with_reducible refine gate_callee (f := 27) rfl ?_); refine goesL_ (some 52) rfl rfl Try.func27 (by kernel_rfl) rfl #[.agg #[.int .i64 t856, .int .i64 t857, .slice Ao30 t858.length co30], .int .i64 1] rfl (by (try simp only [List.map_toArray, List.map_cons, List.map_nil]); first | done | rfl | (simp only [List.length_drop, List.length_take]; rfl)) ?_; (with_reducible refine (laws_markField.calls kj11 t856 t857 (fun k_ => some k_ = (.slice Ao30 t858.length co30 : Value).ownBlock) (.slice Ao30 t858.length co30) t858 1 t876 t877 w _ ?side1 ?side2 A60.out).mono ?_); (case side1 => repeat (first | (with_reducible first | exact HB.out | apply below_alloc | apply pw_below_drewN | apply below_drew1 | refine below_set ?_ GE842.out | refine below_set ?_ GE855.out | refine below_set ?_ GE861.out | refine below_set ?_ GE868.out) | exact HB.out)); (case side2 => exact Kd.R_tight rfl HO_862002.out); rintro e w70 ⟨rfl, hy0, hb, hkp⟩; refine ⟨_, rfl, ?_⟩; have n0_ := Aside0.mk (Kd.R_mono (ok' := fun k_ => some k_ ≠ (.slice Ao30 t858.length co30 : Value).ownBlock ∧ some k_ ≠ (.slice Ao37 t864.length co37 : Value).ownBlock ∧ some k_ ≠ (.slice Ao64 t872.length co64 : Value).ownBlock) (Kd.R_keptB (HO_856002.out) hkp (fun k_ hk_ hs_ => (hk_.1.1) hs_)) (fun k_ hk_ => ⟨hk_.1.1.1, hk_.1.1.2, hk_.1.2⟩)); have n1_ := Aside0.mk (Kd.R_reok rfl hy0 (fun k_ e_ => HO_862002.out.1 k_ e_)); have n2_ := Aside0.mk (Kd.R_mono (ok' := fun k_ => some k_ ≠ (.slice Ao23 t851.length co23 : Value).ownBlock ∧ some k_ ≠ (.slice Ao30 t858.length co30 : Value).ownBlock ∧ some k_ ≠ (.slice Ao64 t872.length co64 : Value).ownBlock) (Kd.R_keptB (HO_869002.out) hkp (fun k_ hk_ hs_ => (hk_.1.2) hs_)) (fun k_ hk_ => ⟨hk_.1.1.1, hk_.1.1.2, hk_.1.2⟩)); have n3_ := Aside0.mk (blk_kept BK842.out hkp (fun hs_ => (fun e_ => (Kd.R_ne HO_862002.out BK842.out (by decide)) e_) hs_)); have n4_ := Aside0.mk (blk_kept BK855.out hkp (fun hs_ => (fun e_ => (Kd.R_ne HO_862002.out BK855.out (by decide)) e_) hs_)); have n5_ := Aside0.mk (blk_kept BK861.out hkp (fun hs_ => (fun e_ => (Kd.R_ne HO_862002.out BK861.out (by decide)) e_) hs_)); have n6_ := Aside0.mk (blk_kept BK868.out hkp (fun hs_ => (fun e_ => (Kd.R_ne HO_862002.out BK868.out (by decide)) e_) hs_)); have n7_ := Aside0.mk (Kd.R_mono (ok' := fun k_ => some k_ ≠ (.slice Ao23 t851.length co23 : Value).ownBlock ∧ some k_ ≠ (.slice Ao30 t858.length co30 : Value).ownBlock ∧ some k_ ≠ (.slice Ao37 t864.length co37 : Value).ownBlock) (Kd.R_keptB (HO874.out) hkp (fun k_ hk_ hs_ => (hk_.1.2) hs_)) (fun k_ hk_ => ⟨hk_.1.1.1.2, hk_.1.1.2, hk_.1.2⟩)); have n8_ := Aside0.mk (hb); clear HO_856002; clear HO_862002; clear HO_869002; clear BK842; clear BK855; clear BK861; clear BK868; clear HO874; clear HB; have HO_856002 := n0_; have HO_862002 := n1_; have HO_869002 := n2_; have BK842 := n3_; have BK855 := n4_; have BK861 := n5_; have BK868 := n6_; have HO874 := n7_; have HB := n8_; clear n0_ n1_ n2_ n3_ n4_ n5_ n6_ n7_ n8_; (try clear hb); (try clear hkp); (try clear hy0)))
              (try simp only [Act.put, List.setIfInBounds_toArray, List.set_cons_zero, List.set_cons_succ])
              go_cut [65] (fun v65 wc => ∃ (kq : Nat) (x65_60 : Bool), v65 = .bool x65_60 ∧ Aside0 (laws_FnExactRaiseSlopes.j1 kq a1 t854 x65_60 a0_0 a0_1 l0_2 t849 t850 t851 t862 t863 t864 = some r) ∧ Aside0 (kq ≤ kj11) ∧ Aside0 (Kd.R (Kd.int .i64) 3 wc w.heap.size (fun k_ => some k_ ≠ ((.slice Ao30 t858.length co30) : Value).ownBlock ∧ some k_ ≠ ((.slice Ao37 t864.length co37) : Value).ownBlock) (.slice Ao23 t851.length co23) t851) ∧ Aside0 (Kd.R (Kd.int .i64) 3 wc w.heap.size (fun k_ => some k_ ≠ ((.slice Ao23 t851.length co23) : Value).ownBlock ∧ some k_ ≠ ((.slice Ao37 t864.length co37) : Value).ownBlock) (.slice Ao30 t858.length co30) t877) ∧ Aside0 (Kd.R (Kd.int .i64) 3 wc w.heap.size (fun k_ => some k_ ≠ ((.slice Ao23 t851.length co23) : Value).ownBlock ∧ some k_ ≠ ((.slice Ao30 t858.length co30) : Value).ownBlock) (.slice Ao37 t864.length co37) t864) ∧ Aside0 (wc.heap[gb842]? = some (.cells #[.int .i64 a0_0, .int .i64 a0_1, (.slice A0_2 l0_2.length c0_2)] 36 (0, 0))) ∧ Aside0 (wc.heap[gb855]? = some (.cells #[.int .i64 t849, .int .i64 t850, (.slice Ao23 t851.length co23)] 26 (0, 0))) ∧ Aside0 (wc.heap[gb861]? = some (.cells #[.int .i64 t856, .int .i64 t857, (.slice Ao30 t858.length co30)] 26 (0, 0))) ∧ Aside0 (wc.heap[gb868]? = some (.cells #[.int .i64 t862, .int .i64 t863, (.slice Ao37 t864.length co37)] 26 (0, 0))) ∧ Aside0 (Below w.heap.size w wc))
              case first =>
                as_aux_lemma =>
                  have H := HC61.out
                  clear HC61
                  by_cases c71 : t876 < 0
                  · rw [if_pos c71] at H
                    have c71b0 : decide (t876 < 0) = true := decide_eq_true c71
                    clear c71
                    (first | rw [c71b0] | (simp only [i64_w, i32_w]; rw [c71b0]) | skip)
                    have H' := Aside0.mk H
                    clear H
                    go_wp2
                    go_meet
                    case rel => exact ⟨_, (true), (by first | rfl | (simp; done) | (simp [*]; done)), H', ⟨by have := HJ11.out; first | omega | exact Nat.le_refl _⟩, ⟨by (with_reducible repeat (first | apply Kd.R_alloc | apply Kd.R_drewN | apply Kd.R_drew)); exact Kd.R_mono HO_856002.out (fun _ hk => ⟨hk.1, hk.2.1⟩)⟩, ⟨by (with_reducible repeat (first | apply Kd.R_alloc | apply Kd.R_drewN | apply Kd.R_drew)); exact Kd.R_mono HO_862002.out (fun _ hk => ⟨hk.1.1, hk.1.2⟩)⟩, ⟨by (with_reducible repeat (first | apply Kd.R_alloc | apply Kd.R_drewN | apply Kd.R_drew)); exact Kd.R_mono HO_869002.out (fun _ hk => ⟨hk.1, hk.2.1⟩)⟩, ⟨by (with_reducible repeat (first | refine blk_drewN ?_ _ | refine blk_drew ?_ | refine blk_alloc ?_ _)); exact BK842.out⟩, ⟨by (with_reducible repeat (first | refine blk_drewN ?_ _ | refine blk_drew ?_ | refine blk_alloc ?_ _)); exact BK855.out⟩, ⟨by (with_reducible repeat (first | refine blk_drewN ?_ _ | refine blk_drew ?_ | refine blk_alloc ?_ _)); exact BK861.out⟩, ⟨by (with_reducible repeat (first | refine blk_drewN ?_ _ | refine blk_drew ?_ | refine blk_alloc ?_ _)); exact BK868.out⟩, ⟨by repeat (first | (with_reducible first | exact HB.out | apply below_alloc | apply pw_below_drewN | apply below_drew1 | refine below_set ?_ GE842.out | refine below_set ?_ GE855.out | refine below_set ?_ GE861.out | refine below_set ?_ GE868.out) | exact HB.out)⟩⟩
                  · rw [if_neg c71] at H
                    have c71b0 : decide (t876 < 0) = false := decide_eq_false c71
                    clear c71
                    (first | rw [c71b0] | (simp only [i64_w, i32_w]; rw [c71b0]) | skip)
                    replace H := Option.bind_eq_some_iff.mp H
                    obtain ⟨t878, A720, H⟩ := H
                    replace H : (if t878 = true then (laws_FnExactRaiseSlopes.j1 kj11 a1 t854 (t867 != t854) a0_0 a0_1 l0_2 t849 t850 t851 t862 t863 t864) else (laws_FnExactRaiseSlopes.j1 kj11 a1 t854 true a0_0 a0_1 l0_2 t849 t850 t851 t862 t863 t864)) = some r := H
                    have A72 := Aside0.mk A720
                    clear A720
                    by_cases c73 : t878 = true
                    · subst c73
                      have H1 : (laws_FnExactRaiseSlopes.j1 kj11 a1 t854 (t867 != t854) a0_0 a0_1 l0_2 t849 t850 t851 t862 t863 t864) = some r := by rw [if_pos rfl] at H; exact H
                      clear H
                      have H := H1
                      clear H1
                      have H' := Aside0.mk H
                      clear H
                      have hnb74 := NB868_842.out
                      have hnc74 := NB842_868.out
                      have hnb75 := NB868_855.out
                      have hnc75 := NB855_868.out
                      have hnb76 := NB868_861.out
                      have hnc76 := NB861_868.out
                      have hcz77_0 : w70.cell? ⟨gb868, 0, none⟩ = some (.int .i64 t862) := (blk_cell BK868.out 0).trans rfl
                      have hcz77_1 : w70.cell? ⟨gb868, 1, none⟩ = some (.int .i64 t863) := (blk_cell BK868.out 1).trans rfl
                      have hcz77_2 : w70.cell? ⟨gb868, 2, none⟩ = some (.slice Ao37 t864.length co37) := (blk_cell BK868.out 2).trans rfl
                      have hfz77_0 := blk_frozen BK868.out 0
                      have hfz77_1 := blk_frozen BK868.out 1
                      have hfz77_2 := blk_frozen BK868.out 2
                      have hnb78 := NB855_842.out
                      have hnc78 := NB842_855.out
                      have hnb79 := NB855_861.out
                      have hnc79 := NB861_855.out
                      have hcz80_0 : w70.cell? ⟨gb855, 0, none⟩ = some (.int .i64 t849) := (blk_cell BK855.out 0).trans rfl
                      have hcz80_1 : w70.cell? ⟨gb855, 1, none⟩ = some (.int .i64 t850) := (blk_cell BK855.out 1).trans rfl
                      have hcz80_2 : w70.cell? ⟨gb855, 2, none⟩ = some (.slice Ao23 t851.length co23) := (blk_cell BK855.out 2).trans rfl
                      have hfz80_0 := blk_frozen BK855.out 0
                      have hfz80_1 := blk_frozen BK855.out 1
                      have hfz80_2 := blk_frozen BK855.out 2
                      go_wp2_with (first | (go_at_call 25; (with_reducible refine (laws_eqField.calls kj11 t862 t863 _ _ t864 t849 t850 _ _ t851 true _ ?side1 ?side2 ?side3 ?side4 A72.out).mono ?_); (case side1 => repeat (first | exact (Kd.R_reads' HO_869002.out).2.2 | (with_reducible refine Kd.C_alloc ?_ _) | (with_reducible refine Kd.C_drewN ?_ _) | (with_reducible refine Kd.C_drew ?_))); (case side2 => exact (Kd.R_reads' HO_869002.out).2.1); (case side3 => repeat (first | exact (Kd.R_reads' HO_856002.out).2.2 | (with_reducible refine Kd.C_alloc ?_ _) | (with_reducible refine Kd.C_drewN ?_ _) | (with_reducible refine Kd.C_drew ?_))); (case side4 => exact (Kd.R_reads' HO_856002.out).2.1); rintro e w81 ⟨rfl, hb⟩; have n0_ := Aside0.mk (Kd.R_below (by (with_reducible repeat (first | apply Kd.R_alloc | apply Kd.R_drewN | apply Kd.R_drew)); exact HO_856002.out) hb); have n1_ := Aside0.mk (Kd.R_below (by (with_reducible repeat (first | apply Kd.R_alloc | apply Kd.R_drewN | apply Kd.R_drew)); exact HO_862002.out) hb); have n2_ := Aside0.mk (Kd.R_below (by (with_reducible repeat (first | apply Kd.R_alloc | apply Kd.R_drewN | apply Kd.R_drew)); exact HO_869002.out) hb); have n3_ := Aside0.mk (Kd.R_below (by (with_reducible repeat (first | apply Kd.R_alloc | apply Kd.R_drewN | apply Kd.R_drew)); exact HO874.out) hb); have n4_ := Aside0.mk (blk_below (g := gb842) (o := .cells #[.int .i64 a0_0, .int .i64 a0_1, .slice A0_2 l0_2.length c0_2] 36 (0, 0)) BK842.out hb); have n5_ := Aside0.mk (blk_below (g := gb855) (o := .cells #[.int .i64 t849, .int .i64 t850, .slice Ao23 t851.length co23] 26 (0, 0)) BK855.out hb); have n6_ := Aside0.mk (blk_below (g := gb861) (o := .cells #[.int .i64 t856, .int .i64 t857, .slice Ao30 t858.length co30] 26 (0, 0)) BK861.out hb); have n7_ := Aside0.mk (blk_below (g := gb868) (o := .cells #[.int .i64 t862, .int .i64 t863, .slice Ao37 t864.length co37] 26 (0, 0)) BK868.out hb); have n8_ := Aside0.mk (below_step (by repeat (first | (with_reducible first | exact HB.out | apply below_alloc | apply pw_below_drewN | apply below_drew1 | refine below_set ?_ GE842.out | refine below_set ?_ GE855.out | refine below_set ?_ GE861.out | refine below_set ?_ GE868.out) | exact HB.out)) hb); clear HO_856002; clear HO_862002; clear HO_869002; clear HO874; clear BK842; clear BK855; clear BK861; clear BK868; clear HB; have HO_856002 := n0_; have HO_862002 := n1_; have HO_869002 := n2_; have HO874 := n3_; have BK842 := n4_; have BK855 := n5_; have BK861 := n6_; have BK868 := n7_; have HB := n8_; clear n0_ n1_ n2_ n3_ n4_ n5_ n6_ n7_ n8_; (try clear hb); (try clear hb2); (try clear hk); (try clear hi)))
                      go_meet
                      case rel => exact ⟨_, ((t867 != t854)), (by first | rfl | (simp; done) | (simp [*]; done)), H', ⟨by have := HJ11.out; first | omega | exact Nat.le_refl _⟩, ⟨by (with_reducible repeat (first | apply Kd.R_alloc | apply Kd.R_drewN | apply Kd.R_drew)); exact Kd.R_mono HO_856002.out (fun _ hk => ⟨hk.1, hk.2.1⟩)⟩, ⟨by (with_reducible repeat (first | apply Kd.R_alloc | apply Kd.R_drewN | apply Kd.R_drew)); exact Kd.R_mono HO_862002.out (fun _ hk => ⟨hk.1.1, hk.1.2⟩)⟩, ⟨by (with_reducible repeat (first | apply Kd.R_alloc | apply Kd.R_drewN | apply Kd.R_drew)); exact Kd.R_mono HO_869002.out (fun _ hk => ⟨hk.1, hk.2.1⟩)⟩, ⟨by (with_reducible repeat (first | refine blk_drewN ?_ _ | refine blk_drew ?_ | refine blk_alloc ?_ _)); exact BK842.out⟩, ⟨by (with_reducible repeat (first | refine blk_drewN ?_ _ | refine blk_drew ?_ | refine blk_alloc ?_ _)); exact BK855.out⟩, ⟨by (with_reducible repeat (first | refine blk_drewN ?_ _ | refine blk_drew ?_ | refine blk_alloc ?_ _)); exact BK861.out⟩, ⟨by (with_reducible repeat (first | refine blk_drewN ?_ _ | refine blk_drew ?_ | refine blk_alloc ?_ _)); exact BK868.out⟩, ⟨by repeat (first | (with_reducible first | exact HB.out | apply below_alloc | apply pw_below_drewN | apply below_drew1 | refine below_set ?_ GE842.out | refine below_set ?_ GE855.out | refine below_set ?_ GE861.out | refine below_set ?_ GE868.out) | exact HB.out)⟩⟩
                    · replace c73 := Bool.eq_false_iff.mpr c73
                      subst c73
                      have H1 : (laws_FnExactRaiseSlopes.j1 kj11 a1 t854 true a0_0 a0_1 l0_2 t849 t850 t851 t862 t863 t864) = some r := by rw [if_neg (show ¬ (false = true) by decide)] at H; exact H
                      clear H
                      have H := H1
                      clear H1
                      have H' := Aside0.mk H
                      clear H
                      have hnb82 := NB868_842.out
                      have hnc82 := NB842_868.out
                      have hnb83 := NB868_855.out
                      have hnc83 := NB855_868.out
                      have hnb84 := NB868_861.out
                      have hnc84 := NB861_868.out
                      have hcz85_0 : w70.cell? ⟨gb868, 0, none⟩ = some (.int .i64 t862) := (blk_cell BK868.out 0).trans rfl
                      have hcz85_1 : w70.cell? ⟨gb868, 1, none⟩ = some (.int .i64 t863) := (blk_cell BK868.out 1).trans rfl
                      have hcz85_2 : w70.cell? ⟨gb868, 2, none⟩ = some (.slice Ao37 t864.length co37) := (blk_cell BK868.out 2).trans rfl
                      have hfz85_0 := blk_frozen BK868.out 0
                      have hfz85_1 := blk_frozen BK868.out 1
                      have hfz85_2 := blk_frozen BK868.out 2
                      have hnb86 := NB855_842.out
                      have hnc86 := NB842_855.out
                      have hnb87 := NB855_861.out
                      have hnc87 := NB861_855.out
                      have hcz88_0 : w70.cell? ⟨gb855, 0, none⟩ = some (.int .i64 t849) := (blk_cell BK855.out 0).trans rfl
                      have hcz88_1 : w70.cell? ⟨gb855, 1, none⟩ = some (.int .i64 t850) := (blk_cell BK855.out 1).trans rfl
                      have hcz88_2 : w70.cell? ⟨gb855, 2, none⟩ = some (.slice Ao23 t851.length co23) := (blk_cell BK855.out 2).trans rfl
                      have hfz88_0 := blk_frozen BK855.out 0
                      have hfz88_1 := blk_frozen BK855.out 1
                      have hfz88_2 := blk_frozen BK855.out 2
                      go_wp2_with (first | (go_at_call 25; (with_reducible refine (laws_eqField.calls kj11 t862 t863 _ _ t864 t849 t850 _ _ t851 false _ ?side1 ?side2 ?side3 ?side4 A72.out).mono ?_); (case side1 => repeat (first | exact (Kd.R_reads' HO_869002.out).2.2 | (with_reducible refine Kd.C_alloc ?_ _) | (with_reducible refine Kd.C_drewN ?_ _) | (with_reducible refine Kd.C_drew ?_))); (case side2 => exact (Kd.R_reads' HO_869002.out).2.1); (case side3 => repeat (first | exact (Kd.R_reads' HO_856002.out).2.2 | (with_reducible refine Kd.C_alloc ?_ _) | (with_reducible refine Kd.C_drewN ?_ _) | (with_reducible refine Kd.C_drew ?_))); (case side4 => exact (Kd.R_reads' HO_856002.out).2.1); rintro e w89 ⟨rfl, hb⟩; have n0_ := Aside0.mk (Kd.R_below (by (with_reducible repeat (first | apply Kd.R_alloc | apply Kd.R_drewN | apply Kd.R_drew)); exact HO_856002.out) hb); have n1_ := Aside0.mk (Kd.R_below (by (with_reducible repeat (first | apply Kd.R_alloc | apply Kd.R_drewN | apply Kd.R_drew)); exact HO_862002.out) hb); have n2_ := Aside0.mk (Kd.R_below (by (with_reducible repeat (first | apply Kd.R_alloc | apply Kd.R_drewN | apply Kd.R_drew)); exact HO_869002.out) hb); have n3_ := Aside0.mk (Kd.R_below (by (with_reducible repeat (first | apply Kd.R_alloc | apply Kd.R_drewN | apply Kd.R_drew)); exact HO874.out) hb); have n4_ := Aside0.mk (blk_below (g := gb842) (o := .cells #[.int .i64 a0_0, .int .i64 a0_1, .slice A0_2 l0_2.length c0_2] 36 (0, 0)) BK842.out hb); have n5_ := Aside0.mk (blk_below (g := gb855) (o := .cells #[.int .i64 t849, .int .i64 t850, .slice Ao23 t851.length co23] 26 (0, 0)) BK855.out hb); have n6_ := Aside0.mk (blk_below (g := gb861) (o := .cells #[.int .i64 t856, .int .i64 t857, .slice Ao30 t858.length co30] 26 (0, 0)) BK861.out hb); have n7_ := Aside0.mk (blk_below (g := gb868) (o := .cells #[.int .i64 t862, .int .i64 t863, .slice Ao37 t864.length co37] 26 (0, 0)) BK868.out hb); have n8_ := Aside0.mk (below_step (by repeat (first | (with_reducible first | exact HB.out | apply below_alloc | apply pw_below_drewN | apply below_drew1 | refine below_set ?_ GE842.out | refine below_set ?_ GE855.out | refine below_set ?_ GE861.out | refine below_set ?_ GE868.out) | exact HB.out)) hb); clear HO_856002; clear HO_862002; clear HO_869002; clear HO874; clear BK842; clear BK855; clear BK861; clear BK868; clear HB; have HO_856002 := n0_; have HO_862002 := n1_; have HO_869002 := n2_; have HO874 := n3_; have BK842 := n4_; have BK855 := n5_; have BK861 := n6_; have BK868 := n7_; have HB := n8_; clear n0_ n1_ n2_ n3_ n4_ n5_ n6_ n7_ n8_; (try clear hb); (try clear hb2); (try clear hk); (try clear hi)))
                      go_meet
                      case rel => exact ⟨_, (true), (by first | rfl | (simp; done) | (simp [*]; done)), H', ⟨by have := HJ11.out; first | omega | exact Nat.le_refl _⟩, ⟨by (with_reducible repeat (first | apply Kd.R_alloc | apply Kd.R_drewN | apply Kd.R_drew)); exact Kd.R_mono HO_856002.out (fun _ hk => ⟨hk.1, hk.2.1⟩)⟩, ⟨by (with_reducible repeat (first | apply Kd.R_alloc | apply Kd.R_drewN | apply Kd.R_drew)); exact Kd.R_mono HO_862002.out (fun _ hk => ⟨hk.1.1, hk.1.2⟩)⟩, ⟨by (with_reducible repeat (first | apply Kd.R_alloc | apply Kd.R_drewN | apply Kd.R_drew)); exact Kd.R_mono HO_869002.out (fun _ hk => ⟨hk.1, hk.2.1⟩)⟩, ⟨by (with_reducible repeat (first | refine blk_drewN ?_ _ | refine blk_drew ?_ | refine blk_alloc ?_ _)); exact BK842.out⟩, ⟨by (with_reducible repeat (first | refine blk_drewN ?_ _ | refine blk_drew ?_ | refine blk_alloc ?_ _)); exact BK855.out⟩, ⟨by (with_reducible repeat (first | refine blk_drewN ?_ _ | refine blk_drew ?_ | refine blk_alloc ?_ _)); exact BK861.out⟩, ⟨by (with_reducible repeat (first | refine blk_drewN ?_ _ | refine blk_drew ?_ | refine blk_alloc ?_ _)); exact BK868.out⟩, ⟨by repeat (first | (with_reducible first | exact HB.out | apply below_alloc | apply pw_below_drewN | apply below_drew1 | refine below_set ?_ GE842.out | refine below_set ?_ GE855.out | refine below_set ?_ GE861.out | refine below_set ?_ GE868.out) | exact HB.out)⟩⟩
              case rest =>
                as_aux_lemma =>
                  clear HC61
                  try clear c1
                  try clear c2
                  try clear p2
                  try clear c3
                  try clear c4
                  try clear c4b0
                  try clear c5
                  try clear c6
                  try clear c7
                  try clear c8
                  try clear c14
                  try clear c17
                  try clear c20
                  try clear c21
                  try clear c22
                  try clear c25
                  try clear c27
                  try clear c28
                  try clear c33
                  try clear c34
                  try clear c35
                  try clear c39
                  try clear c40
                  try clear c41
                  try clear c42
                  try clear c44
                  try clear c45
                  try clear c48
                  try clear c49
                  try clear c50
                  try clear c52
                  try clear c53
                  try clear c56
                  try clear c59
                  try clear c66
                  try clear c67
                  try clear c68
                  try clear c71
                  try clear c71b0
                  try clear c73
                  try clear c74
                  try clear c75
                  try clear c76
                  try clear c78
                  try clear c79
                  try clear c82
                  try clear c83
                  try clear c84
                  try clear c86
                  try clear c87
                  try clear hcz14_0
                  try clear hcz14_1
                  try clear hcz14_2
                  try clear hcz16_0
                  try clear hcz16_1
                  try clear hcz16_2
                  try clear hcz22_0
                  try clear hcz22_1
                  try clear hcz22_2
                  try clear hcz24_0
                  try clear hcz24_1
                  try clear hcz24_2
                  try clear hcz29_0
                  try clear hcz29_1
                  try clear hcz29_2
                  try clear hcz36_0
                  try clear hcz36_1
                  try clear hcz36_2
                  try clear hcz43_0
                  try clear hcz43_1
                  try clear hcz43_2
                  try clear hcz46_0
                  try clear hcz46_1
                  try clear hcz46_2
                  try clear hcz51_0
                  try clear hcz51_1
                  try clear hcz51_2
                  try clear hcz54_0
                  try clear hcz54_1
                  try clear hcz54_2
                  try clear hcz69_0
                  try clear hcz69_1
                  try clear hcz69_2
                  try clear hcz6_0
                  try clear hcz6_1
                  try clear hcz6_2
                  try clear hcz77_0
                  try clear hcz77_1
                  try clear hcz77_2
                  try clear hcz80_0
                  try clear hcz80_1
                  try clear hcz80_2
                  try clear hcz85_0
                  try clear hcz85_1
                  try clear hcz85_2
                  try clear hcz88_0
                  try clear hcz88_1
                  try clear hcz88_2
                  try clear hfz14_0
                  try clear hfz14_1
                  try clear hfz14_2
                  try clear hfz16_0
                  try clear hfz16_1
                  try clear hfz16_2
                  try clear hfz22_0
                  try clear hfz22_1
                  try clear hfz22_2
                  try clear hfz24_0
                  try clear hfz24_1
                  try clear hfz24_2
                  try clear hfz29_0
                  try clear hfz29_1
                  try clear hfz29_2
                  try clear hfz36_0
                  try clear hfz36_1
                  try clear hfz36_2
                  try clear hfz43_0
                  try clear hfz43_1
                  try clear hfz43_2
                  try clear hfz46_0
                  try clear hfz46_1
                  try clear hfz46_2
                  try clear hfz51_0
                  try clear hfz51_1
                  try clear hfz51_2
                  try clear hfz54_0
                  try clear hfz54_1
                  try clear hfz54_2
                  try clear hfz69_0
                  try clear hfz69_1
                  try clear hfz69_2
                  try clear hfz6_0
                  try clear hfz6_1
                  try clear hfz6_2
                  try clear hfz77_0
                  try clear hfz77_1
                  try clear hfz77_2
                  try clear hfz80_0
                  try clear hfz80_1
                  try clear hfz80_2
                  try clear hfz85_0
                  try clear hfz85_1
                  try clear hfz85_2
                  try clear hfz88_0
                  try clear hfz88_1
                  try clear hfz88_2
                  try clear p2
                  obtain ⟨kq, x65_60, rfl, HA, HJ60, HO_856002, HO_862002, HO_869002, BK842, BK855, BK861, BK868, HB⟩ := hcut
                  have hl862002_60 := (Kd.R_reads' HO_862002.out).1
                  rw [hl862002_60] at HO_862002
                  (try simp only [hl862002_60])
                  (try simp only [hl862002_60] at BK842)
                  (try simp only [hl862002_60] at BK855)
                  (try simp only [hl862002_60] at BK861)
                  (try simp only [hl862002_60] at BK868)
                  (try simp only [hl862002_60] at HO_856002)
                  (try simp only [hl862002_60] at HO_869002)
                  cases kq with
                  | zero => exact absurd HA.out (by simp [laws_FnExactRaiseSlopes.j1])
                  | succ kj60 =>
                    have H := HA.out
                    clear HA
                    simp only [laws_FnExactRaiseSlopes.j1] at H
                    by_cases c90 : x65_60 = true
                    · subst c90
                      have H1 : (some false) = some r := by rw [if_pos rfl] at H; exact H
                      exact absurd ((Option.some.inj H1).trans hrt_) (by decide)
                    · replace c90 := Bool.eq_false_iff.mpr c90
                      subst c90
                      have H1 : ((laws_markField.f kj60 t862 t863 t864 1).bind fun bt879 => ((laws_heldField.f kj60 t862 t863 bt879.2 1).bind fun t881 => (if t881 < 0 then (some false) else (if t881 = bt879.1 then ((laws_toField.f kj60 a0_0 a0_1 l0_2).bind fun bt882 => ((impl_RaiseSlopes.f kj60 bt882.1 bt882.2.1 bt882.2.2 a1).bind fun bt887 => ((laws_eqField.f kj60 bt887.1 bt887.2.1 bt887.2.2.1 t849 t850 t851).bind fun t894 => (if t894 = true then (laws_FnExactRaiseSlopes.j2 kj60 bt879.1 (bt887.2.2.2 != t854) t862 t863 bt879.2) else (laws_FnExactRaiseSlopes.j2 kj60 bt879.1 true t862 t863 bt879.2))))) else (some false))))) = some r := by rw [if_neg (show ¬ (false = true) by decide)] at H; exact H
                      clear H
                      have H := H1
                      clear H1
                      replace H := Option.bind_eq_some_iff.mp H
                      obtain ⟨⟨t879, t880⟩, A910, H⟩ := H
                      replace H : ((laws_heldField.f kj60 t862 t863 t880 1).bind fun t881 => (if t881 < 0 then (some false) else (if t881 = t879 then ((laws_toField.f kj60 a0_0 a0_1 l0_2).bind fun bt882 => ((impl_RaiseSlopes.f kj60 bt882.1 bt882.2.1 bt882.2.2 a1).bind fun bt887 => ((laws_eqField.f kj60 bt887.1 bt887.2.1 bt887.2.2.1 t849 t850 t851).bind fun t894 => (if t894 = true then (laws_FnExactRaiseSlopes.j2 kj60 t879 (bt887.2.2.2 != t854) t862 t863 t880) else (laws_FnExactRaiseSlopes.j2 kj60 t879 true t862 t863 t880))))) else (some false)))) = some r := H
                      have A91 := Aside0.mk A910
                      clear A910
                      replace H := Option.bind_eq_some_iff.mp H
                      obtain ⟨t881, A920, H⟩ := H
                      replace H : (if t881 < 0 then (some false) else (if t881 = t879 then ((laws_toField.f kj60 a0_0 a0_1 l0_2).bind fun bt882 => ((impl_RaiseSlopes.f kj60 bt882.1 bt882.2.1 bt882.2.2 a1).bind fun bt887 => ((laws_eqField.f kj60 bt887.1 bt887.2.1 bt887.2.2.1 t849 t850 t851).bind fun t894 => (if t894 = true then (laws_FnExactRaiseSlopes.j2 kj60 t879 (bt887.2.2.2 != t854) t862 t863 t880) else (laws_FnExactRaiseSlopes.j2 kj60 t879 true t862 t863 t880))))) else (some false))) = some r := H
                      have A92 := Aside0.mk A920
                      clear A920
                      by_cases c93 : t881 < 0
                      · rw [if_pos c93] at H
                        have c93b0 : decide (t881 < 0) = true := decide_eq_true c93
                        clear c93
                        obtain rfl := Option.some.inj H
                        have hnb94 := NB868_842.out
                        have hnc94 := NB842_868.out
                        have hnb95 := NB868_855.out
                        have hnc95 := NB855_868.out
                        have hnb96 := NB868_861.out
                        have hnc96 := NB861_868.out
                        have hcz97_0 : wc.cell? ⟨gb868, 0, none⟩ = some (.int .i64 t862) := (blk_cell BK868.out 0).trans rfl
                        have hcz97_1 : wc.cell? ⟨gb868, 1, none⟩ = some (.int .i64 t863) := (blk_cell BK868.out 1).trans rfl
                        have hcz97_2 : wc.cell? ⟨gb868, 2, none⟩ = some (.slice Ao37 t864.length co37) := (blk_cell BK868.out 2).trans rfl
                        have hfz97_0 := blk_frozen BK868.out 0
                        have hfz97_1 := blk_frozen BK868.out 1
                        have hfz97_2 := blk_frozen BK868.out 2
                        go_wp2_with (first | ((with_reducible refine gate_callee (f := 27) rfl ?_); refine goesL_ (some 68) rfl rfl Try.func27 (by kernel_rfl) rfl #[.agg #[.int .i64 t862, .int .i64 t863, .slice Ao37 t864.length co37], .int .i64 1] rfl (by (try simp only [List.map_toArray, List.map_cons, List.map_nil]); first | done | rfl | (simp only [List.length_drop, List.length_take]; rfl)) ?_; (with_reducible refine (laws_markField.calls kj60 t862 t863 (fun k_ => some k_ = (.slice Ao37 t864.length co37 : Value).ownBlock) (.slice Ao37 t864.length co37) t864 1 t879 t880 w _ ?side1 ?side2 A91.out).mono ?_); (case side1 => repeat (first | (with_reducible first | exact HB.out | apply below_alloc | apply pw_below_drewN | apply below_drew1 | refine below_set ?_ GE842.out | refine below_set ?_ GE855.out | refine below_set ?_ GE861.out | refine below_set ?_ GE868.out) | exact HB.out)); (case side2 => exact Kd.R_tight rfl HO_869002.out); rintro e w98 ⟨rfl, hy0, hb, hkp⟩; refine ⟨_, rfl, ?_⟩; have n0_ := Aside0.mk (Kd.R_mono (ok' := fun k_ => some k_ ≠ (.slice Ao30 t877.length co30 : Value).ownBlock ∧ some k_ ≠ (.slice Ao37 t864.length co37 : Value).ownBlock) (Kd.R_keptB (HO_856002.out) hkp (fun k_ hk_ hs_ => (hk_.2) hs_)) (fun k_ hk_ => ⟨hk_.1.1, hk_.1.2⟩)); have n1_ := Aside0.mk (Kd.R_mono (ok' := fun k_ => some k_ ≠ (.slice Ao23 t851.length co23 : Value).ownBlock ∧ some k_ ≠ (.slice Ao37 t864.length co37 : Value).ownBlock) (Kd.R_keptB (HO_862002.out) hkp (fun k_ hk_ hs_ => (hk_.2) hs_)) (fun k_ hk_ => ⟨hk_.1.1, hk_.1.2⟩)); have n2_ := Aside0.mk (Kd.R_reok rfl hy0 (fun k_ e_ => HO_869002.out.1 k_ e_)); have n3_ := Aside0.mk (blk_kept BK842.out hkp (fun hs_ => (fun e_ => (Kd.R_ne HO_869002.out BK842.out (by decide)) e_) hs_)); have n4_ := Aside0.mk (blk_kept BK855.out hkp (fun hs_ => (fun e_ => (Kd.R_ne HO_869002.out BK855.out (by decide)) e_) hs_)); have n5_ := Aside0.mk (blk_kept BK861.out hkp (fun hs_ => (fun e_ => (Kd.R_ne HO_869002.out BK861.out (by decide)) e_) hs_)); have n6_ := Aside0.mk (blk_kept BK868.out hkp (fun hs_ => (fun e_ => (Kd.R_ne HO_869002.out BK868.out (by decide)) e_) hs_)); have n7_ := Aside0.mk (hb); clear HO_856002; clear HO_862002; clear HO_869002; clear BK842; clear BK855; clear BK861; clear BK868; clear HB; have HO_856002 := n0_; have HO_862002 := n1_; have HO_869002 := n2_; have BK842 := n3_; have BK855 := n4_; have BK861 := n5_; have BK868 := n6_; have HB := n7_; clear n0_ n1_ n2_ n3_ n4_ n5_ n6_ n7_; (try clear hb); (try clear hkp); (try clear hy0); have hcz99_0 : w98.cell? ⟨gb868, 0, none⟩ = some (.int .i64 t862) := (blk_cell BK868.out 0).trans rfl; have hcz99_1 : w98.cell? ⟨gb868, 1, none⟩ = some (.int .i64 t863) := (blk_cell BK868.out 1).trans rfl; have hcz99_2 : w98.cell? ⟨gb868, 2, none⟩ = some (.slice Ao37 t864.length co37) := (blk_cell BK868.out 2).trans rfl; have hfz99_0 := blk_frozen BK868.out 0; have hfz99_1 := blk_frozen BK868.out 1; have hfz99_2 := blk_frozen BK868.out 2) | ((with_reducible refine gate_callee (f := 29) rfl ?_); refine goesL_ (some 71) rfl rfl Try.func29 (by kernel_rfl) rfl #[.agg #[.int .i64 t862, .int .i64 t863, .slice Ao37 t880.length co37], .int .i64 1] rfl (by (try simp only [List.map_toArray, List.map_cons, List.map_nil]); first | done | (rw [show t880.length = t864.length from (Kd.R_reads' HO_869002.out).1.symm] <;> rfl) | rfl | (simp only [List.length_drop, List.length_take]; rfl)) ?_; (with_reducible refine (laws_heldField.calls kj60 t862 t863 _ _ t880 1 t881 _ ?side1 ?side2 A92.out).mono ?_); (case side1 => repeat (first | exact (Kd.R_reads' HO_869002.out).2.2 | (with_reducible refine Kd.C_alloc ?_ _) | (with_reducible refine Kd.C_drewN ?_ _) | (with_reducible refine Kd.C_drew ?_))); (case side2 => rw [show t880.length = t864.length from (Kd.R_reads' HO_869002.out).1.symm]; exact (Kd.R_reads' HO_869002.out).2.1); rintro e w100 ⟨rfl, hb⟩; refine ⟨_, rfl, ?_⟩; have n0_ := Aside0.mk (Kd.R_below (by (with_reducible repeat (first | apply Kd.R_alloc | apply Kd.R_drewN | apply Kd.R_drew)); exact HO_856002.out) hb); have n1_ := Aside0.mk (Kd.R_below (by (with_reducible repeat (first | apply Kd.R_alloc | apply Kd.R_drewN | apply Kd.R_drew)); exact HO_862002.out) hb); have n2_ := Aside0.mk (Kd.R_below (by (with_reducible repeat (first | apply Kd.R_alloc | apply Kd.R_drewN | apply Kd.R_drew)); exact HO_869002.out) hb); have n3_ := Aside0.mk (blk_below (g := gb842) (o := .cells #[.int .i64 a0_0, .int .i64 a0_1, .slice A0_2 l0_2.length c0_2] 36 (0, 0)) BK842.out hb); have n4_ := Aside0.mk (blk_below (g := gb855) (o := .cells #[.int .i64 t849, .int .i64 t850, .slice Ao23 t851.length co23] 26 (0, 0)) BK855.out hb); have n5_ := Aside0.mk (blk_below (g := gb861) (o := .cells #[.int .i64 t856, .int .i64 t857, .slice Ao30 t877.length co30] 26 (0, 0)) BK861.out hb); have n6_ := Aside0.mk (blk_below (g := gb868) (o := .cells #[.int .i64 t862, .int .i64 t863, .slice Ao37 t864.length co37] 26 (0, 0)) BK868.out hb); have n7_ := Aside0.mk (below_step (by repeat (first | (with_reducible first | exact HB.out | apply below_alloc | apply pw_below_drewN | apply below_drew1 | refine below_set ?_ GE842.out | refine below_set ?_ GE855.out | refine below_set ?_ GE861.out | refine below_set ?_ GE868.out) | exact HB.out)) hb); clear HO_856002; clear HO_862002; clear HO_869002; clear BK842; clear BK855; clear BK861; clear BK868; clear HB; have HO_856002 := n0_; have HO_862002 := n1_; have HO_869002 := n2_; have BK842 := n3_; have BK855 := n4_; have BK861 := n5_; have BK868 := n6_; have HB := n7_; clear n0_ n1_ n2_ n3_ n4_ n5_ n6_ n7_; (try clear hb); (try clear hb2); (try clear hk); (try clear hi)))
                        go_ret
                        exact ⟨by first | rfl | (simp [errW_none, errW_some] <;> rfl) | (simp [*, errW_none, errW_some] <;> rfl), by repeat (first | (with_reducible first | exact HB.out | apply below_alloc | apply pw_below_drewN | apply below_drew1 | refine below_set ?_ GE842.out | refine below_set ?_ GE855.out | refine below_set ?_ GE861.out | refine below_set ?_ GE868.out) | exact HB.out)⟩
                      · rw [if_neg c93] at H
                        have c93b0 : decide (t881 < 0) = false := decide_eq_false c93
                        clear c93
                        by_cases c101 : t881 = t879
                        · rw [if_pos c101] at H
                          have c101b0 : (t881 == t879) = true := beq_iff_eq.mpr c101
                          have c101b1 : (t881 != t879) = false := bne_eq_false_iff_eq.mpr c101
                          clear c101
                          replace H := Option.bind_eq_some_iff.mp H
                          obtain ⟨⟨t882, t883, t884⟩, A1020, H⟩ := H
                          replace H : ((impl_RaiseSlopes.f kj60 t882 t883 t884 a1).bind fun bt887 => ((laws_eqField.f kj60 bt887.1 bt887.2.1 bt887.2.2.1 t849 t850 t851).bind fun t894 => (if t894 = true then (laws_FnExactRaiseSlopes.j2 kj60 t879 (bt887.2.2.2 != t854) t862 t863 t880) else (laws_FnExactRaiseSlopes.j2 kj60 t879 true t862 t863 t880)))) = some r := H
                          have A102 := Aside0.mk A1020
                          clear A1020
                          replace H := Option.bind_eq_some_iff.mp H
                          obtain ⟨⟨t887, t888, t889, t892⟩, A1030, H⟩ := H
                          replace H : ((laws_eqField.f kj60 t887 t888 t889 t849 t850 t851).bind fun t894 => (if t894 = true then (laws_FnExactRaiseSlopes.j2 kj60 t879 (t892 != t854) t862 t863 t880) else (laws_FnExactRaiseSlopes.j2 kj60 t879 true t862 t863 t880))) = some r := H
                          have A103 := Aside0.mk A1030
                          clear A1030
                          have HC104 := Aside0.mk H
                          clear H
                          have hnb105 := NB868_842.out
                          have hnc105 := NB842_868.out
                          have hnb106 := NB868_855.out
                          have hnc106 := NB855_868.out
                          have hnb107 := NB868_861.out
                          have hnc107 := NB861_868.out
                          have hcz108_0 : wc.cell? ⟨gb868, 0, none⟩ = some (.int .i64 t862) := (blk_cell BK868.out 0).trans rfl
                          have hcz108_1 : wc.cell? ⟨gb868, 1, none⟩ = some (.int .i64 t863) := (blk_cell BK868.out 1).trans rfl
                          have hcz108_2 : wc.cell? ⟨gb868, 2, none⟩ = some (.slice Ao37 t864.length co37) := (blk_cell BK868.out 2).trans rfl
                          have hfz108_0 := blk_frozen BK868.out 0
                          have hfz108_1 := blk_frozen BK868.out 1
                          have hfz108_2 := blk_frozen BK868.out 2
                          go_upto_region 25 with (first | ((with_reducible refine gate_callee (f := 27) rfl ?_); refine goesL_ (some 68) rfl rfl Try.func27 (by kernel_rfl) rfl #[.agg #[.int .i64 t862, .int .i64 t863, .slice Ao37 t864.length co37], .int .i64 1] rfl (by (try simp only [List.map_toArray, List.map_cons, List.map_nil]); first | done | rfl | (simp only [List.length_drop, List.length_take]; rfl)) ?_; (with_reducible refine (laws_markField.calls kj60 t862 t863 (fun k_ => some k_ = (.slice Ao37 t864.length co37 : Value).ownBlock) (.slice Ao37 t864.length co37) t864 1 t879 t880 w _ ?side1 ?side2 A91.out).mono ?_); (case side1 => repeat (first | (with_reducible first | exact HB.out | apply below_alloc | apply pw_below_drewN | apply below_drew1 | refine below_set ?_ GE842.out | refine below_set ?_ GE855.out | refine below_set ?_ GE861.out | refine below_set ?_ GE868.out) | exact HB.out)); (case side2 => exact Kd.R_tight rfl HO_869002.out); rintro e w109 ⟨rfl, hy0, hb, hkp⟩; refine ⟨_, rfl, ?_⟩; have n0_ := Aside0.mk (Kd.R_mono (ok' := fun k_ => some k_ ≠ (.slice Ao30 t877.length co30 : Value).ownBlock ∧ some k_ ≠ (.slice Ao37 t864.length co37 : Value).ownBlock) (Kd.R_keptB (HO_856002.out) hkp (fun k_ hk_ hs_ => (hk_.2) hs_)) (fun k_ hk_ => ⟨hk_.1.1, hk_.1.2⟩)); have n1_ := Aside0.mk (Kd.R_mono (ok' := fun k_ => some k_ ≠ (.slice Ao23 t851.length co23 : Value).ownBlock ∧ some k_ ≠ (.slice Ao37 t864.length co37 : Value).ownBlock) (Kd.R_keptB (HO_862002.out) hkp (fun k_ hk_ hs_ => (hk_.2) hs_)) (fun k_ hk_ => ⟨hk_.1.1, hk_.1.2⟩)); have n2_ := Aside0.mk (Kd.R_reok rfl hy0 (fun k_ e_ => HO_869002.out.1 k_ e_)); have n3_ := Aside0.mk (blk_kept BK842.out hkp (fun hs_ => (fun e_ => (Kd.R_ne HO_869002.out BK842.out (by decide)) e_) hs_)); have n4_ := Aside0.mk (blk_kept BK855.out hkp (fun hs_ => (fun e_ => (Kd.R_ne HO_869002.out BK855.out (by decide)) e_) hs_)); have n5_ := Aside0.mk (blk_kept BK861.out hkp (fun hs_ => (fun e_ => (Kd.R_ne HO_869002.out BK861.out (by decide)) e_) hs_)); have n6_ := Aside0.mk (blk_kept BK868.out hkp (fun hs_ => (fun e_ => (Kd.R_ne HO_869002.out BK868.out (by decide)) e_) hs_)); have n7_ := Aside0.mk (hb); clear HO_856002; clear HO_862002; clear HO_869002; clear BK842; clear BK855; clear BK861; clear BK868; clear HB; have HO_856002 := n0_; have HO_862002 := n1_; have HO_869002 := n2_; have BK842 := n3_; have BK855 := n4_; have BK861 := n5_; have BK868 := n6_; have HB := n7_; clear n0_ n1_ n2_ n3_ n4_ n5_ n6_ n7_; (try clear hb); (try clear hkp); (try clear hy0); have hcz110_0 : w109.cell? ⟨gb868, 0, none⟩ = some (.int .i64 t862) := (blk_cell BK868.out 0).trans rfl; have hcz110_1 : w109.cell? ⟨gb868, 1, none⟩ = some (.int .i64 t863) := (blk_cell BK868.out 1).trans rfl; have hcz110_2 : w109.cell? ⟨gb868, 2, none⟩ = some (.slice Ao37 t864.length co37) := (blk_cell BK868.out 2).trans rfl; have hfz110_0 := blk_frozen BK868.out 0; have hfz110_1 := blk_frozen BK868.out 1; have hfz110_2 := blk_frozen BK868.out 2) | ((with_reducible refine gate_callee (f := 29) rfl ?_); refine goesL_ (some 71) rfl rfl Try.func29 (by kernel_rfl) rfl #[.agg #[.int .i64 t862, .int .i64 t863, .slice Ao37 t880.length co37], .int .i64 1] rfl (by (try simp only [List.map_toArray, List.map_cons, List.map_nil]); first | done | (rw [show t880.length = t864.length from (Kd.R_reads' HO_869002.out).1.symm] <;> rfl) | rfl | (simp only [List.length_drop, List.length_take]; rfl)) ?_; (with_reducible refine (laws_heldField.calls kj60 t862 t863 _ _ t880 1 t881 _ ?side1 ?side2 A92.out).mono ?_); (case side1 => repeat (first | exact (Kd.R_reads' HO_869002.out).2.2 | (with_reducible refine Kd.C_alloc ?_ _) | (with_reducible refine Kd.C_drewN ?_ _) | (with_reducible refine Kd.C_drew ?_))); (case side2 => rw [show t880.length = t864.length from (Kd.R_reads' HO_869002.out).1.symm]; exact (Kd.R_reads' HO_869002.out).2.1); rintro e w111 ⟨rfl, hb⟩; refine ⟨_, rfl, ?_⟩; have n0_ := Aside0.mk (Kd.R_below (by (with_reducible repeat (first | apply Kd.R_alloc | apply Kd.R_drewN | apply Kd.R_drew)); exact HO_856002.out) hb); have n1_ := Aside0.mk (Kd.R_below (by (with_reducible repeat (first | apply Kd.R_alloc | apply Kd.R_drewN | apply Kd.R_drew)); exact HO_862002.out) hb); have n2_ := Aside0.mk (Kd.R_below (by (with_reducible repeat (first | apply Kd.R_alloc | apply Kd.R_drewN | apply Kd.R_drew)); exact HO_869002.out) hb); have n3_ := Aside0.mk (blk_below (g := gb842) (o := .cells #[.int .i64 a0_0, .int .i64 a0_1, .slice A0_2 l0_2.length c0_2] 36 (0, 0)) BK842.out hb); have n4_ := Aside0.mk (blk_below (g := gb855) (o := .cells #[.int .i64 t849, .int .i64 t850, .slice Ao23 t851.length co23] 26 (0, 0)) BK855.out hb); have n5_ := Aside0.mk (blk_below (g := gb861) (o := .cells #[.int .i64 t856, .int .i64 t857, .slice Ao30 t877.length co30] 26 (0, 0)) BK861.out hb); have n6_ := Aside0.mk (blk_below (g := gb868) (o := .cells #[.int .i64 t862, .int .i64 t863, .slice Ao37 t864.length co37] 26 (0, 0)) BK868.out hb); have n7_ := Aside0.mk (below_step (by repeat (first | (with_reducible first | exact HB.out | apply below_alloc | apply pw_below_drewN | apply below_drew1 | refine below_set ?_ GE842.out | refine below_set ?_ GE855.out | refine below_set ?_ GE861.out | refine below_set ?_ GE868.out) | exact HB.out)) hb); clear HO_856002; clear HO_862002; clear HO_869002; clear BK842; clear BK855; clear BK861; clear BK868; clear HB; have HO_856002 := n0_; have HO_862002 := n1_; have HO_869002 := n2_; have BK842 := n3_; have BK855 := n4_; have BK861 := n5_; have BK868 := n6_; have HB := n7_; clear n0_ n1_ n2_ n3_ n4_ n5_ n6_ n7_; (try clear hb); (try clear hb2); (try clear hk); (try clear hi); have hnb112 := NB842_855.out; have hnc112 := NB855_842.out; have hnb113 := NB842_861.out; have hnc113 := NB861_842.out; have hcz114_0 : w111.cell? ⟨gb842, 0, none⟩ = some (.int .i64 a0_0) := (blk_cell BK842.out 0).trans rfl; have hcz114_1 : w111.cell? ⟨gb842, 1, none⟩ = some (.int .i64 a0_1) := (blk_cell BK842.out 1).trans rfl; have hcz114_2 : w111.cell? ⟨gb842, 2, none⟩ = some (.slice A0_2 l0_2.length c0_2) := (blk_cell BK842.out 2).trans rfl; have hfz114_0 := blk_frozen BK842.out 0; have hfz114_1 := blk_frozen BK842.out 1; have hfz114_2 := blk_frozen BK842.out 2) | ((with_reducible refine gate_callee (f := 22) rfl ?_); refine goesL_ (some 79) rfl rfl Try.func22 (by kernel_rfl) rfl #[.agg #[.int .i64 a0_0, .int .i64 a0_1, .slice A0_2 l0_2.length c0_2]] rfl (by (try simp only [List.map_toArray, List.map_cons, List.map_nil]); first | done | rfl | (simp only [List.length_drop, List.length_take]; rfl)) ?_; (with_reducible refine (laws_toField.calls kj60 a0_0 a0_1 _ _ l0_2 t882 t883 t884 _ ?side1 ?side2 A102.out).mono ?_); (case side1 => repeat (first | exact (Kd.C_below HR0_2.out HB.out) | (with_reducible refine Kd.C_alloc ?_ _) | (with_reducible refine Kd.C_drewN ?_ _) | (with_reducible refine Kd.C_drew ?_))); (case side2 => exact HC0_2.out); rintro e w115 ⟨v885, rfl, ho0, hb⟩; refine ⟨_, rfl, ?_⟩; have n0_ := Aside0.mk (Kd.R_elder' (by (with_reducible repeat (first | apply Kd.R_alloc | apply Kd.R_drewN | apply Kd.R_drew)); exact HO_856002.out) (Kd.R_base ho0) hb); have n1_ := Aside0.mk (Kd.R_elder' (by (with_reducible repeat (first | apply Kd.R_alloc | apply Kd.R_drewN | apply Kd.R_drew)); exact HO_862002.out) (Kd.R_base ho0) hb); have n2_ := Aside0.mk (Kd.R_elder' (by (with_reducible repeat (first | apply Kd.R_alloc | apply Kd.R_drewN | apply Kd.R_drew)); exact HO_869002.out) (Kd.R_base ho0) hb); have n3_ := Aside0.mk (Kd.R_lower (Kd.R_new' (Kd.R_new' (Kd.R_new' ho0 (Kd.R_lt (by (with_reducible repeat (first | apply Kd.R_alloc | apply Kd.R_drewN | apply Kd.R_drew)); exact HO_856002.out))) (Kd.R_lt (by (with_reducible repeat (first | apply Kd.R_alloc | apply Kd.R_drewN | apply Kd.R_drew)); exact HO_862002.out))) (Kd.R_lt (by (with_reducible repeat (first | apply Kd.R_alloc | apply Kd.R_drewN | apply Kd.R_drew)); exact HO_869002.out))) (below_size (by repeat (first | (with_reducible first | exact HB.out | apply below_alloc | apply pw_below_drewN | apply below_drew1 | refine below_set ?_ GE842.out | refine below_set ?_ GE855.out | refine below_set ?_ GE861.out | refine below_set ?_ GE868.out) | exact HB.out)))); have n4_ := Aside0.mk (blk_below (g := gb842) (o := .cells #[.int .i64 a0_0, .int .i64 a0_1, .slice A0_2 l0_2.length c0_2] 36 (0, 0)) BK842.out hb); have n5_ := Aside0.mk (blk_below (g := gb855) (o := .cells #[.int .i64 t849, .int .i64 t850, .slice Ao23 t851.length co23] 26 (0, 0)) BK855.out hb); have n6_ := Aside0.mk (blk_below (g := gb861) (o := .cells #[.int .i64 t856, .int .i64 t857, .slice Ao30 t877.length co30] 26 (0, 0)) BK861.out hb); have n7_ := Aside0.mk (blk_below (g := gb868) (o := .cells #[.int .i64 t862, .int .i64 t863, .slice Ao37 t864.length co37] 26 (0, 0)) BK868.out hb); have n8_ := Aside0.mk (below_step (by repeat (first | (with_reducible first | exact HB.out | apply below_alloc | apply pw_below_drewN | apply below_drew1 | refine below_set ?_ GE842.out | refine below_set ?_ GE855.out | refine below_set ?_ GE861.out | refine below_set ?_ GE868.out) | exact HB.out)) hb); clear HO_856002; clear HO_862002; clear HO_869002; clear BK842; clear BK855; clear BK861; clear BK868; clear HB; have HO_856002 := n0_; have HO_862002 := n1_; have HO_869002 := n2_; have HO886 := n3_; have BK842 := n4_; have BK855 := n5_; have BK861 := n6_; have BK868 := n7_; have HB := n8_; clear n0_ n1_ n2_ n3_ n4_ n5_ n6_ n7_ n8_; (try clear hb); (try clear hb2); (try clear hk); (try clear hi); (try clear ho0); obtain ⟨Ao116, co116, eo116⟩ := Kd.R_slice HO886.out; subst eo116) | ((with_reducible refine gate_callee (f := 14) rfl ?_); refine goesL_ (some 81) rfl rfl Try.func14 (by kernel_rfl) rfl #[.agg #[.int .i64 t882, .int .i64 t883, .slice Ao116 t884.length co116], .int .i64 a1] rfl (by (try simp only [List.map_toArray, List.map_cons, List.map_nil]); first | done | rfl | (simp only [List.length_drop, List.length_take]; rfl)) ?_; (with_reducible refine (impl_RaiseSlopes.calls kj60 t882 t883 _ _ t884 a1 t887 t888 t889 t892 _ ?side1 ?side2 A103.out).mono ?_); (case side1 => repeat (first | exact (Kd.R_reads' HO886.out).2.2 | (with_reducible refine Kd.C_alloc ?_ _) | (with_reducible refine Kd.C_drewN ?_ _) | (with_reducible refine Kd.C_drew ?_))); (case side2 => exact (Kd.R_reads' HO886.out).2.1); rintro e w117 ⟨v890, rfl, ho0, hb⟩; refine ⟨_, rfl, ?_⟩; have n0_ := Aside0.mk (Kd.R_elder' (by (with_reducible repeat (first | apply Kd.R_alloc | apply Kd.R_drewN | apply Kd.R_drew)); exact HO_856002.out) (Kd.R_base ho0) hb); have n1_ := Aside0.mk (Kd.R_elder' (by (with_reducible repeat (first | apply Kd.R_alloc | apply Kd.R_drewN | apply Kd.R_drew)); exact HO_862002.out) (Kd.R_base ho0) hb); have n2_ := Aside0.mk (Kd.R_elder' (by (with_reducible repeat (first | apply Kd.R_alloc | apply Kd.R_drewN | apply Kd.R_drew)); exact HO_869002.out) (Kd.R_base ho0) hb); have n3_ := Aside0.mk (Kd.R_elder' (by (with_reducible repeat (first | apply Kd.R_alloc | apply Kd.R_drewN | apply Kd.R_drew)); exact HO886.out) (Kd.R_base ho0) hb); have n4_ := Aside0.mk (Kd.R_lower (Kd.R_new' (Kd.R_new' (Kd.R_new' (Kd.R_new' ho0 (Kd.R_lt (by (with_reducible repeat (first | apply Kd.R_alloc | apply Kd.R_drewN | apply Kd.R_drew)); exact HO_856002.out))) (Kd.R_lt (by (with_reducible repeat (first | apply Kd.R_alloc | apply Kd.R_drewN | apply Kd.R_drew)); exact HO_862002.out))) (Kd.R_lt (by (with_reducible repeat (first | apply Kd.R_alloc | apply Kd.R_drewN | apply Kd.R_drew)); exact HO_869002.out))) (Kd.R_lt (by (with_reducible repeat (first | apply Kd.R_alloc | apply Kd.R_drewN | apply Kd.R_drew)); exact HO886.out))) (below_size (by repeat (first | (with_reducible first | exact HB.out | apply below_alloc | apply pw_below_drewN | apply below_drew1 | refine below_set ?_ GE842.out | refine below_set ?_ GE855.out | refine below_set ?_ GE861.out | refine below_set ?_ GE868.out) | exact HB.out)))); have n5_ := Aside0.mk (blk_below (g := gb842) (o := .cells #[.int .i64 a0_0, .int .i64 a0_1, .slice A0_2 l0_2.length c0_2] 36 (0, 0)) BK842.out hb); have n6_ := Aside0.mk (blk_below (g := gb855) (o := .cells #[.int .i64 t849, .int .i64 t850, .slice Ao23 t851.length co23] 26 (0, 0)) BK855.out hb); have n7_ := Aside0.mk (blk_below (g := gb861) (o := .cells #[.int .i64 t856, .int .i64 t857, .slice Ao30 t877.length co30] 26 (0, 0)) BK861.out hb); have n8_ := Aside0.mk (blk_below (g := gb868) (o := .cells #[.int .i64 t862, .int .i64 t863, .slice Ao37 t864.length co37] 26 (0, 0)) BK868.out hb); have n9_ := Aside0.mk (below_step (by repeat (first | (with_reducible first | exact HB.out | apply below_alloc | apply pw_below_drewN | apply below_drew1 | refine below_set ?_ GE842.out | refine below_set ?_ GE855.out | refine below_set ?_ GE861.out | refine below_set ?_ GE868.out) | exact HB.out)) hb); clear HO_856002; clear HO_862002; clear HO_869002; clear HO886; clear BK842; clear BK855; clear BK861; clear BK868; clear HB; have HO_856002 := n0_; have HO_862002 := n1_; have HO_869002 := n2_; have HO886 := n3_; have HO891 := n4_; have BK842 := n5_; have BK855 := n6_; have BK861 := n7_; have BK868 := n8_; have HB := n9_; clear n0_ n1_ n2_ n3_ n4_ n5_ n6_ n7_ n8_ n9_; (try clear hb); (try clear hb2); (try clear hk); (try clear hi); (try clear ho0)) | ((with_reducible refine gate_dst (N := 14) rfl ?_); refine box_event ?hg (N := 14) ?hd (cs := #[.int .i64 0, .int .i64 0, .slice none 0 0]) (t := 26) ?hr ?_; (case hd => rfl); (case hg => rfl); (case hr => first | (go_simp; done) | (go_simp; rfl)); intro gb893 hg w118 hbox hb; have n0_ := Aside0.mk (Kd.R_below (by (with_reducible repeat (first | apply Kd.R_alloc | apply Kd.R_drewN | apply Kd.R_drew)); exact HO_856002.out) hb); have n1_ := Aside0.mk (Kd.R_below (by (with_reducible repeat (first | apply Kd.R_alloc | apply Kd.R_drewN | apply Kd.R_drew)); exact HO_862002.out) hb); have n2_ := Aside0.mk (Kd.R_below (by (with_reducible repeat (first | apply Kd.R_alloc | apply Kd.R_drewN | apply Kd.R_drew)); exact HO_869002.out) hb); have n3_ := Aside0.mk (Kd.R_below (by (with_reducible repeat (first | apply Kd.R_alloc | apply Kd.R_drewN | apply Kd.R_drew)); exact HO886.out) hb); have n4_ := Aside0.mk (Kd.R_below (by (with_reducible repeat (first | apply Kd.R_alloc | apply Kd.R_drewN | apply Kd.R_drew)); exact HO891.out) hb); have n5_ := Aside0.mk (blk_below (g := gb842) (o := .cells #[.int .i64 a0_0, .int .i64 a0_1, .slice A0_2 l0_2.length c0_2] 36 (0, 0)) BK842.out hb); have n6_ := Aside0.mk (blk_below (g := gb855) (o := .cells #[.int .i64 t849, .int .i64 t850, .slice Ao23 t851.length co23] 26 (0, 0)) BK855.out hb); have n7_ := Aside0.mk (blk_below (g := gb861) (o := .cells #[.int .i64 t856, .int .i64 t857, .slice Ao30 t877.length co30] 26 (0, 0)) BK861.out hb); have n8_ := Aside0.mk (blk_below (g := gb868) (o := .cells #[.int .i64 t862, .int .i64 t863, .slice Ao37 t864.length co37] 26 (0, 0)) BK868.out hb); have n9_ := Aside0.mk (below_step (by repeat (first | (with_reducible first | exact HB.out | apply below_alloc | apply pw_below_drewN | apply below_drew1 | refine below_set ?_ GE842.out | refine below_set ?_ GE855.out | refine below_set ?_ GE861.out | refine below_set ?_ GE868.out) | exact HB.out)) hb); have n10_ := Aside0.mk (hbox); have n11_ := Aside0.mk ((by rw [hg]; exact (below_size (by repeat (first | (with_reducible first | exact HB.out | apply below_alloc | apply pw_below_drewN | apply below_drew1 | refine below_set ?_ GE842.out | refine below_set ?_ GE855.out | refine below_set ?_ GE861.out | refine below_set ?_ GE868.out) | exact HB.out))) : w.heap.size ≤ gb893)); have n12_ := Aside0.mk ((by rw [hg]; exact (below_size (by repeat (first | (with_reducible first | exact HB.out | apply below_alloc | apply pw_below_drewN | apply below_drew1 | refine below_set ?_ GE842.out | refine below_set ?_ GE855.out | refine below_set ?_ GE861.out | refine below_set ?_ GE868.out) | exact HB.out))) : w.heap.size ≤ gb893)); have n13_ := Aside0.mk ((by rw [hg]; exact Nat.ne_of_lt (blk_lt (g := gb842) (o := .cells #[.int .i64 a0_0, .int .i64 a0_1, .slice A0_2 l0_2.length c0_2] 36 (0, 0)) BK842.out) : gb842 ≠ gb893)); have n14_ := Aside0.mk ((by rw [hg]; exact Nat.ne_of_gt (blk_lt (g := gb842) (o := .cells #[.int .i64 a0_0, .int .i64 a0_1, .slice A0_2 l0_2.length c0_2] 36 (0, 0)) BK842.out) : gb893 ≠ gb842)); have n15_ := Aside0.mk ((by rw [hg]; exact Nat.ne_of_lt (blk_lt (g := gb855) (o := .cells #[.int .i64 t849, .int .i64 t850, .slice Ao23 t851.length co23] 26 (0, 0)) BK855.out) : gb855 ≠ gb893)); have n16_ := Aside0.mk ((by rw [hg]; exact Nat.ne_of_gt (blk_lt (g := gb855) (o := .cells #[.int .i64 t849, .int .i64 t850, .slice Ao23 t851.length co23] 26 (0, 0)) BK855.out) : gb893 ≠ gb855)); have n17_ := Aside0.mk ((by rw [hg]; exact Nat.ne_of_lt (blk_lt (g := gb861) (o := .cells #[.int .i64 t856, .int .i64 t857, .slice Ao30 t877.length co30] 26 (0, 0)) BK861.out) : gb861 ≠ gb893)); have n18_ := Aside0.mk ((by rw [hg]; exact Nat.ne_of_gt (blk_lt (g := gb861) (o := .cells #[.int .i64 t856, .int .i64 t857, .slice Ao30 t877.length co30] 26 (0, 0)) BK861.out) : gb893 ≠ gb861)); have n19_ := Aside0.mk ((by rw [hg]; exact Nat.ne_of_lt (blk_lt (g := gb868) (o := .cells #[.int .i64 t862, .int .i64 t863, .slice Ao37 t864.length co37] 26 (0, 0)) BK868.out) : gb868 ≠ gb893)); have n20_ := Aside0.mk ((by rw [hg]; exact Nat.ne_of_gt (blk_lt (g := gb868) (o := .cells #[.int .i64 t862, .int .i64 t863, .slice Ao37 t864.length co37] 26 (0, 0)) BK868.out) : gb893 ≠ gb868)); clear HO_856002; clear HO_862002; clear HO_869002; clear HO886; clear HO891; clear BK842; clear BK855; clear BK861; clear BK868; clear HB; have HO_856002 := n0_; have HO_862002 := n1_; have HO_869002 := n2_; have HO886 := n3_; have HO891 := n4_; have BK842 := n5_; have BK855 := n6_; have BK861 := n7_; have BK868 := n8_; have HB := n9_; have BK893 := n10_; have GW893 := n11_; have GE893 := n12_; have NB842_893 := n13_; have NB893_842 := n14_; have NB855_893 := n15_; have NB893_855 := n16_; have NB861_893 := n17_; have NB893_861 := n18_; have NB868_893 := n19_; have NB893_868 := n20_; clear n0_ n1_ n2_ n3_ n4_ n5_ n6_ n7_ n8_ n9_ n10_ n11_ n12_ n13_ n14_ n15_ n16_ n17_ n18_ n19_ n20_; clear hb hbox hg; have hnb119 := NB893_842.out; have hnc119 := NB842_893.out; have hnb120 := NB893_855.out; have hnc120 := NB855_893.out; have hnb121 := NB893_861.out; have hnc121 := NB861_893.out; have hnb122 := NB893_868.out; have hnc122 := NB868_893.out; have hcz123_0 : w118.cell? ⟨gb893, 0, none⟩ = some (.int .i64 0) := (blk_cell BK893.out 0).trans rfl; have hcz123_1 : w118.cell? ⟨gb893, 1, none⟩ = some (.int .i64 0) := (blk_cell BK893.out 1).trans rfl; have hcz123_2 : w118.cell? ⟨gb893, 2, none⟩ = some (.slice none 0 0) := (blk_cell BK893.out 2).trans rfl; have hfz123_0 := blk_frozen BK893.out 0; have hfz123_1 := blk_frozen BK893.out 1; have hfz123_2 := blk_frozen BK893.out 2; obtain ⟨Ao124, co124, eo124⟩ := Kd.R_slice HO891.out; subst eo124))
                          (try simp only [Act.put, List.setIfInBounds_toArray, List.set_cons_zero, List.set_cons_succ])
                          go_cut [92] (fun v92 wc => ∃ (kq : Nat) (x92_103 : Bool), v92 = .bool x92_103 ∧ Aside0 (laws_FnExactRaiseSlopes.j2 kq t879 x92_103 t862 t863 t880 = some r) ∧ Aside0 (kq ≤ kj60) ∧ Aside0 (Kd.R (Kd.int .i64) 3 wc w.heap.size (fun k_ => some k_ ≠ ((.slice Ao30 t877.length co30) : Value).ownBlock ∧ some k_ ≠ ((.slice Ao37 t864.length co37) : Value).ownBlock ∧ some k_ ≠ ((.slice Ao124 t889.length co124) : Value).ownBlock) (.slice Ao23 t851.length co23) t851) ∧ Aside0 (Kd.R (Kd.int .i64) 3 wc w.heap.size (fun k_ => some k_ ≠ ((.slice Ao23 t851.length co23) : Value).ownBlock ∧ some k_ ≠ ((.slice Ao37 t864.length co37) : Value).ownBlock ∧ some k_ ≠ ((.slice Ao124 t889.length co124) : Value).ownBlock) (.slice Ao30 t877.length co30) t877) ∧ Aside0 (Kd.R (Kd.int .i64) 3 wc w.heap.size (fun k_ => some k_ ≠ ((.slice Ao23 t851.length co23) : Value).ownBlock ∧ some k_ ≠ ((.slice Ao30 t877.length co30) : Value).ownBlock ∧ some k_ ≠ ((.slice Ao124 t889.length co124) : Value).ownBlock) (.slice Ao37 t864.length co37) t880) ∧ Aside0 (Kd.R (Kd.int .i64) 3 wc w.heap.size (fun k_ => some k_ ≠ ((.slice Ao23 t851.length co23) : Value).ownBlock ∧ some k_ ≠ ((.slice Ao30 t877.length co30) : Value).ownBlock ∧ some k_ ≠ ((.slice Ao37 t864.length co37) : Value).ownBlock) (.slice Ao124 t889.length co124) t889) ∧ Aside0 (wc.heap[gb842]? = some (.cells #[.int .i64 a0_0, .int .i64 a0_1, (.slice A0_2 l0_2.length c0_2)] 36 (0, 0))) ∧ Aside0 (wc.heap[gb855]? = some (.cells #[.int .i64 t849, .int .i64 t850, (.slice Ao23 t851.length co23)] 26 (0, 0))) ∧ Aside0 (wc.heap[gb861]? = some (.cells #[.int .i64 t856, .int .i64 t857, (.slice Ao30 t877.length co30)] 26 (0, 0))) ∧ Aside0 (wc.heap[gb868]? = some (.cells #[.int .i64 t862, .int .i64 t863, (.slice Ao37 t864.length co37)] 26 (0, 0))) ∧ Aside0 (wc.heap[gb893]? = some (.cells #[.int .i64 t887, .int .i64 t888, (.slice Ao124 t889.length co124)] 26 (0, 0))) ∧ Aside0 (Below w.heap.size w wc))
                          case first =>
                            as_aux_lemma =>
                              have H := HC104.out
                              clear HC104
                              replace H := Option.bind_eq_some_iff.mp H
                              obtain ⟨t894, A1250, H⟩ := H
                              replace H : (if t894 = true then (laws_FnExactRaiseSlopes.j2 kj60 t879 (t892 != t854) t862 t863 t880) else (laws_FnExactRaiseSlopes.j2 kj60 t879 true t862 t863 t880)) = some r := H
                              have A125 := Aside0.mk A1250
                              clear A1250
                              by_cases c126 : t894 = true
                              · subst c126
                                have H1 : (laws_FnExactRaiseSlopes.j2 kj60 t879 (t892 != t854) t862 t863 t880) = some r := by rw [if_pos rfl] at H; exact H
                                clear H
                                have H := H1
                                clear H1
                                have H' := Aside0.mk H
                                clear H
                                have hnb127 := NB893_842.out
                                have hnc127 := NB842_893.out
                                have hnb128 := NB893_855.out
                                have hnc128 := NB855_893.out
                                have hnb129 := NB893_861.out
                                have hnc129 := NB861_893.out
                                have hnb130 := NB893_868.out
                                have hnc130 := NB868_893.out
                                have hcz131_0 : w118.cell? ⟨gb893, 0, none⟩ = some (.int .i64 0) := (blk_cell BK893.out 0).trans rfl
                                have hcz131_1 : w118.cell? ⟨gb893, 1, none⟩ = some (.int .i64 0) := (blk_cell BK893.out 1).trans rfl
                                have hcz131_2 : w118.cell? ⟨gb893, 2, none⟩ = some (.slice none 0 0) := (blk_cell BK893.out 2).trans rfl
                                have hfz131_0 := blk_frozen BK893.out 0
                                have hfz131_1 := blk_frozen BK893.out 1
                                have hfz131_2 := blk_frozen BK893.out 2
                                have hnb132 := NB855_842.out
                                have hnc132 := NB842_855.out
                                have hnb133 := NB855_861.out
                                have hnc133 := NB861_855.out
                                have hnb134 := NB855_868.out
                                have hnc134 := NB868_855.out
                                have hcz135_0 : w118.cell? ⟨gb855, 0, none⟩ = some (.int .i64 t849) := (blk_cell BK855.out 0).trans rfl
                                have hcz135_1 : w118.cell? ⟨gb855, 1, none⟩ = some (.int .i64 t850) := (blk_cell BK855.out 1).trans rfl
                                have hcz135_2 : w118.cell? ⟨gb855, 2, none⟩ = some (.slice Ao23 t851.length co23) := (blk_cell BK855.out 2).trans rfl
                                have hfz135_0 := blk_frozen BK855.out 0
                                have hfz135_1 := blk_frozen BK855.out 1
                                have hfz135_2 := blk_frozen BK855.out 2
                                go_wp2_with (first | ((with_reducible refine gate_callee (f := 25) rfl ?_); refine goesL_ (some 86) rfl rfl Try.func25 (by kernel_rfl) rfl #[.agg #[.int .i64 t887, .int .i64 t888, .slice Ao124 t889.length co124], .agg #[.int .i64 t849, .int .i64 t850, .slice Ao23 t851.length co23]] rfl (by (try simp only [List.map_toArray, List.map_cons, List.map_nil]); first | done | rfl | (simp only [List.length_drop, List.length_take]; rfl)) ?_; (with_reducible refine (laws_eqField.calls kj60 t887 t888 _ _ t889 t849 t850 _ _ t851 true _ ?side1 ?side2 ?side3 ?side4 A125.out).mono ?_); (case side1 => refine (Kd.R_reads' (e := 3) (base := w.heap.size) (ok := fun k_ => ((((True ∧ some k_ ≠ (.slice Ao23 t851.length co23 : Value).ownBlock) ∧ some k_ ≠ (.slice Ao30 t877.length co30 : Value).ownBlock) ∧ some k_ ≠ (.slice Ao37 t864.length co37 : Value).ownBlock) ∧ some k_ ≠ (.slice Ao116 t884.length co116 : Value).ownBlock)) (n := t889.length) (c := co124) ?_).2.2; exact (by (with_reducible repeat (first | apply Kd.R_alloc | apply Kd.R_drewN | apply Kd.R_drew)); exact (Kd.R_mono (Kd.R_far (p := ⟨gb893, 2, none⟩) (Kd.R_far (p := ⟨gb893, 1, none⟩) (Kd.R_far (p := ⟨gb893, 0, none⟩) (Kd.R_types HO891.out BK893.out (by decide)) (fun _ hk => hk.2) (.int .i64 t887)) (fun _ hk => hk.2) (.int .i64 t888)) (fun _ hk => hk.2) (.slice Ao124 t889.length co124)) (fun _ h_ => h_.1)))); (case side2 => exact (Kd.R_reads' HO891.out).2.1); (case side3 => refine (Kd.R_reads' (e := 3) (base := w.heap.size) (ok := fun k_ => (((some k_ ≠ (.slice Ao30 t877.length co30 : Value).ownBlock ∧ some k_ ≠ (.slice Ao37 t864.length co37 : Value).ownBlock) ∧ some k_ ≠ (.slice Ao116 t884.length co116 : Value).ownBlock) ∧ some k_ ≠ (.slice Ao124 t889.length co124 : Value).ownBlock)) (n := t851.length) (c := co23) ?_).2.2; exact (by (with_reducible repeat (first | apply Kd.R_alloc | apply Kd.R_drewN | apply Kd.R_drew)); exact (Kd.R_mono (Kd.R_far (p := ⟨gb893, 2, none⟩) (Kd.R_far (p := ⟨gb893, 1, none⟩) (Kd.R_far (p := ⟨gb893, 0, none⟩) (Kd.R_types HO_856002.out BK893.out (by decide)) (fun _ hk => hk.2) (.int .i64 t887)) (fun _ hk => hk.2) (.int .i64 t888)) (fun _ hk => hk.2) (.slice Ao124 t889.length co124)) (fun _ h_ => h_.1)))); (case side4 => exact (Kd.R_reads' HO_856002.out).2.1); rintro e w136 ⟨rfl, hb⟩; refine ⟨_, rfl, ?_⟩; have n0_ := Aside0.mk (Kd.R_below (by (with_reducible repeat (first | apply Kd.R_alloc | apply Kd.R_drewN | apply Kd.R_drew)); exact (Kd.R_mono (Kd.R_far (p := ⟨gb893, 2, none⟩) (Kd.R_far (p := ⟨gb893, 1, none⟩) (Kd.R_far (p := ⟨gb893, 0, none⟩) (Kd.R_types HO_856002.out BK893.out (by decide)) (fun _ hk => hk.2) (.int .i64 t887)) (fun _ hk => hk.2) (.int .i64 t888)) (fun _ hk => hk.2) (.slice Ao124 t889.length co124)) (fun _ h_ => h_.1))) hb); have n1_ := Aside0.mk (Kd.R_below (by (with_reducible repeat (first | apply Kd.R_alloc | apply Kd.R_drewN | apply Kd.R_drew)); exact (Kd.R_mono (Kd.R_far (p := ⟨gb893, 2, none⟩) (Kd.R_far (p := ⟨gb893, 1, none⟩) (Kd.R_far (p := ⟨gb893, 0, none⟩) (Kd.R_types HO_862002.out BK893.out (by decide)) (fun _ hk => hk.2) (.int .i64 t887)) (fun _ hk => hk.2) (.int .i64 t888)) (fun _ hk => hk.2) (.slice Ao124 t889.length co124)) (fun _ h_ => h_.1))) hb); have n2_ := Aside0.mk (Kd.R_below (by (with_reducible repeat (first | apply Kd.R_alloc | apply Kd.R_drewN | apply Kd.R_drew)); exact (Kd.R_mono (Kd.R_far (p := ⟨gb893, 2, none⟩) (Kd.R_far (p := ⟨gb893, 1, none⟩) (Kd.R_far (p := ⟨gb893, 0, none⟩) (Kd.R_types HO_869002.out BK893.out (by decide)) (fun _ hk => hk.2) (.int .i64 t887)) (fun _ hk => hk.2) (.int .i64 t888)) (fun _ hk => hk.2) (.slice Ao124 t889.length co124)) (fun _ h_ => h_.1))) hb); have n3_ := Aside0.mk (Kd.R_below (by (with_reducible repeat (first | apply Kd.R_alloc | apply Kd.R_drewN | apply Kd.R_drew)); exact (Kd.R_mono (Kd.R_far (p := ⟨gb893, 2, none⟩) (Kd.R_far (p := ⟨gb893, 1, none⟩) (Kd.R_far (p := ⟨gb893, 0, none⟩) (Kd.R_types HO886.out BK893.out (by decide)) (fun _ hk => hk.2) (.int .i64 t887)) (fun _ hk => hk.2) (.int .i64 t888)) (fun _ hk => hk.2) (.slice Ao124 t889.length co124)) (fun _ h_ => h_.1))) hb); have n4_ := Aside0.mk (Kd.R_below (by (with_reducible repeat (first | apply Kd.R_alloc | apply Kd.R_drewN | apply Kd.R_drew)); exact (Kd.R_mono (Kd.R_far (p := ⟨gb893, 2, none⟩) (Kd.R_far (p := ⟨gb893, 1, none⟩) (Kd.R_far (p := ⟨gb893, 0, none⟩) (Kd.R_types HO891.out BK893.out (by decide)) (fun _ hk => hk.2) (.int .i64 t887)) (fun _ hk => hk.2) (.int .i64 t888)) (fun _ hk => hk.2) (.slice Ao124 t889.length co124)) (fun _ h_ => h_.1))) hb); have n5_ := Aside0.mk (blk_below (g := gb842) (o := .cells #[.int .i64 a0_0, .int .i64 a0_1, .slice A0_2 l0_2.length c0_2] 36 (0, 0)) (by (with_reducible repeat (first | refine blk_drewN ?_ _ | refine blk_drew ?_ | refine blk_alloc ?_ _)); refine blk_far ?_ NB842_893.out _; (with_reducible repeat (first | refine blk_drewN ?_ _ | refine blk_drew ?_ | refine blk_alloc ?_ _)); refine blk_far ?_ NB842_893.out _; (with_reducible repeat (first | refine blk_drewN ?_ _ | refine blk_drew ?_ | refine blk_alloc ?_ _)); refine blk_far ?_ NB842_893.out _; (with_reducible repeat (first | refine blk_drewN ?_ _ | refine blk_drew ?_ | refine blk_alloc ?_ _)); exact BK842.out) hb); have n6_ := Aside0.mk (blk_below (g := gb855) (o := .cells #[.int .i64 t849, .int .i64 t850, .slice Ao23 t851.length co23] 26 (0, 0)) (by (with_reducible repeat (first | refine blk_drewN ?_ _ | refine blk_drew ?_ | refine blk_alloc ?_ _)); refine blk_far ?_ NB855_893.out _; (with_reducible repeat (first | refine blk_drewN ?_ _ | refine blk_drew ?_ | refine blk_alloc ?_ _)); refine blk_far ?_ NB855_893.out _; (with_reducible repeat (first | refine blk_drewN ?_ _ | refine blk_drew ?_ | refine blk_alloc ?_ _)); refine blk_far ?_ NB855_893.out _; (with_reducible repeat (first | refine blk_drewN ?_ _ | refine blk_drew ?_ | refine blk_alloc ?_ _)); exact BK855.out) hb); have n7_ := Aside0.mk (blk_below (g := gb861) (o := .cells #[.int .i64 t856, .int .i64 t857, .slice Ao30 t877.length co30] 26 (0, 0)) (by (with_reducible repeat (first | refine blk_drewN ?_ _ | refine blk_drew ?_ | refine blk_alloc ?_ _)); refine blk_far ?_ NB861_893.out _; (with_reducible repeat (first | refine blk_drewN ?_ _ | refine blk_drew ?_ | refine blk_alloc ?_ _)); refine blk_far ?_ NB861_893.out _; (with_reducible repeat (first | refine blk_drewN ?_ _ | refine blk_drew ?_ | refine blk_alloc ?_ _)); refine blk_far ?_ NB861_893.out _; (with_reducible repeat (first | refine blk_drewN ?_ _ | refine blk_drew ?_ | refine blk_alloc ?_ _)); exact BK861.out) hb); have n8_ := Aside0.mk (blk_below (g := gb868) (o := .cells #[.int .i64 t862, .int .i64 t863, .slice Ao37 t864.length co37] 26 (0, 0)) (by (with_reducible repeat (first | refine blk_drewN ?_ _ | refine blk_drew ?_ | refine blk_alloc ?_ _)); refine blk_far ?_ NB868_893.out _; (with_reducible repeat (first | refine blk_drewN ?_ _ | refine blk_drew ?_ | refine blk_alloc ?_ _)); refine blk_far ?_ NB868_893.out _; (with_reducible repeat (first | refine blk_drewN ?_ _ | refine blk_drew ?_ | refine blk_alloc ?_ _)); refine blk_far ?_ NB868_893.out _; (with_reducible repeat (first | refine blk_drewN ?_ _ | refine blk_drew ?_ | refine blk_alloc ?_ _)); exact BK868.out) hb); have n9_ := Aside0.mk (blk_below (g := gb893) (o := .cells #[.int .i64 t887, .int .i64 t888, .slice Ao124 t889.length co124] 26 (0, 0)) (by (with_reducible repeat (first | refine blk_drewN ?_ _ | refine blk_drew ?_ | refine blk_alloc ?_ _)); refine blk_put (cs := #[.int .i64 t887, .int .i64 t888, .slice none 0 0]) ?_ 2 _ rfl; (with_reducible repeat (first | refine blk_drewN ?_ _ | refine blk_drew ?_ | refine blk_alloc ?_ _)); refine blk_put (cs := #[.int .i64 t887, .int .i64 0, .slice none 0 0]) ?_ 1 _ rfl; (with_reducible repeat (first | refine blk_drewN ?_ _ | refine blk_drew ?_ | refine blk_alloc ?_ _)); refine blk_put (cs := #[.int .i64 0, .int .i64 0, .slice none 0 0]) ?_ 0 _ rfl; (with_reducible repeat (first | refine blk_drewN ?_ _ | refine blk_drew ?_ | refine blk_alloc ?_ _)); exact BK893.out) hb); have n10_ := Aside0.mk (below_step (by repeat (first | (with_reducible first | exact HB.out | apply below_alloc | apply pw_below_drewN | apply below_drew1 | refine below_set ?_ GE842.out | refine below_set ?_ GE855.out | refine below_set ?_ GE861.out | refine below_set ?_ GE868.out | refine below_set ?_ GE893.out) | exact HB.out)) hb); clear HO_856002; clear HO_862002; clear HO_869002; clear HO886; clear HO891; clear BK842; clear BK855; clear BK861; clear BK868; clear BK893; clear HB; have HO_856002 := n0_; have HO_862002 := n1_; have HO_869002 := n2_; have HO886 := n3_; have HO891 := n4_; have BK842 := n5_; have BK855 := n6_; have BK861 := n7_; have BK868 := n8_; have BK893 := n9_; have HB := n10_; clear n0_ n1_ n2_ n3_ n4_ n5_ n6_ n7_ n8_ n9_ n10_; (try clear hb); (try clear hb2); (try clear hk); (try clear hi)))
                                go_meet
                                case rel => exact ⟨_, ((t892 != t854)), (by first | rfl | (simp; done) | (simp [*]; done)), H', ⟨by have := HJ11.out; have := HJ60.out; first | omega | exact Nat.le_refl _⟩, ⟨by (try simp only [hl862002_60]); (with_reducible repeat (first | apply Kd.R_alloc | apply Kd.R_drewN | apply Kd.R_drew)); exact Kd.R_mono HO_856002.out (fun _ hk => ⟨hk.1.1.1, ⟨hk.1.1.2, hk.2⟩⟩)⟩, ⟨by (try simp only [hl862002_60]); (with_reducible repeat (first | apply Kd.R_alloc | apply Kd.R_drewN | apply Kd.R_drew)); exact Kd.R_mono HO_862002.out (fun _ hk => ⟨hk.1.1.1, ⟨hk.1.1.2, hk.2⟩⟩)⟩, ⟨by (try simp only [hl862002_60]); (with_reducible repeat (first | apply Kd.R_alloc | apply Kd.R_drewN | apply Kd.R_drew)); exact Kd.R_mono HO_869002.out (fun _ hk => ⟨hk.1.1.1, ⟨hk.1.1.2, hk.2⟩⟩)⟩, ⟨by (try simp only [hl862002_60]); (with_reducible repeat (first | apply Kd.R_alloc | apply Kd.R_drewN | apply Kd.R_drew)); exact Kd.R_mono HO891.out (fun _ hk => ⟨hk.1.1.1.2, ⟨hk.1.1.2, hk.1.2⟩⟩)⟩, ⟨by (try simp only [hl862002_60]); (with_reducible repeat (first | refine blk_drewN ?_ _ | refine blk_drew ?_ | refine blk_alloc ?_ _)); exact BK842.out⟩, ⟨by (try simp only [hl862002_60]); (with_reducible repeat (first | refine blk_drewN ?_ _ | refine blk_drew ?_ | refine blk_alloc ?_ _)); exact BK855.out⟩, ⟨by (try simp only [hl862002_60]); (with_reducible repeat (first | refine blk_drewN ?_ _ | refine blk_drew ?_ | refine blk_alloc ?_ _)); exact BK861.out⟩, ⟨by (try simp only [hl862002_60]); (with_reducible repeat (first | refine blk_drewN ?_ _ | refine blk_drew ?_ | refine blk_alloc ?_ _)); exact BK868.out⟩, ⟨by (try simp only [hl862002_60]); (with_reducible repeat (first | refine blk_drewN ?_ _ | refine blk_drew ?_ | refine blk_alloc ?_ _)); exact BK893.out⟩, ⟨by repeat (first | (with_reducible first | exact HB.out | apply below_alloc | apply pw_below_drewN | apply below_drew1 | refine below_set ?_ GE842.out | refine below_set ?_ GE855.out | refine below_set ?_ GE861.out | refine below_set ?_ GE868.out | refine below_set ?_ GE893.out) | exact HB.out)⟩⟩
                              · replace c126 := Bool.eq_false_iff.mpr c126
                                subst c126
                                have H1 : (laws_FnExactRaiseSlopes.j2 kj60 t879 true t862 t863 t880) = some r := by rw [if_neg (show ¬ (false = true) by decide)] at H; exact H
                                clear H
                                have H := H1
                                clear H1
                                have H' := Aside0.mk H
                                clear H
                                have hnb137 := NB893_842.out
                                have hnc137 := NB842_893.out
                                have hnb138 := NB893_855.out
                                have hnc138 := NB855_893.out
                                have hnb139 := NB893_861.out
                                have hnc139 := NB861_893.out
                                have hnb140 := NB893_868.out
                                have hnc140 := NB868_893.out
                                have hcz141_0 : w118.cell? ⟨gb893, 0, none⟩ = some (.int .i64 0) := (blk_cell BK893.out 0).trans rfl
                                have hcz141_1 : w118.cell? ⟨gb893, 1, none⟩ = some (.int .i64 0) := (blk_cell BK893.out 1).trans rfl
                                have hcz141_2 : w118.cell? ⟨gb893, 2, none⟩ = some (.slice none 0 0) := (blk_cell BK893.out 2).trans rfl
                                have hfz141_0 := blk_frozen BK893.out 0
                                have hfz141_1 := blk_frozen BK893.out 1
                                have hfz141_2 := blk_frozen BK893.out 2
                                have hnb142 := NB855_842.out
                                have hnc142 := NB842_855.out
                                have hnb143 := NB855_861.out
                                have hnc143 := NB861_855.out
                                have hnb144 := NB855_868.out
                                have hnc144 := NB868_855.out
                                have hcz145_0 : w118.cell? ⟨gb855, 0, none⟩ = some (.int .i64 t849) := (blk_cell BK855.out 0).trans rfl
                                have hcz145_1 : w118.cell? ⟨gb855, 1, none⟩ = some (.int .i64 t850) := (blk_cell BK855.out 1).trans rfl
                                have hcz145_2 : w118.cell? ⟨gb855, 2, none⟩ = some (.slice Ao23 t851.length co23) := (blk_cell BK855.out 2).trans rfl
                                have hfz145_0 := blk_frozen BK855.out 0
                                have hfz145_1 := blk_frozen BK855.out 1
                                have hfz145_2 := blk_frozen BK855.out 2
                                go_wp2_with (first | ((with_reducible refine gate_callee (f := 25) rfl ?_); refine goesL_ (some 86) rfl rfl Try.func25 (by kernel_rfl) rfl #[.agg #[.int .i64 t887, .int .i64 t888, .slice Ao124 t889.length co124], .agg #[.int .i64 t849, .int .i64 t850, .slice Ao23 t851.length co23]] rfl (by (try simp only [List.map_toArray, List.map_cons, List.map_nil]); first | done | rfl | (simp only [List.length_drop, List.length_take]; rfl)) ?_; (with_reducible refine (laws_eqField.calls kj60 t887 t888 _ _ t889 t849 t850 _ _ t851 false _ ?side1 ?side2 ?side3 ?side4 A125.out).mono ?_); (case side1 => refine (Kd.R_reads' (e := 3) (base := w.heap.size) (ok := fun k_ => ((((True ∧ some k_ ≠ (.slice Ao23 t851.length co23 : Value).ownBlock) ∧ some k_ ≠ (.slice Ao30 t877.length co30 : Value).ownBlock) ∧ some k_ ≠ (.slice Ao37 t864.length co37 : Value).ownBlock) ∧ some k_ ≠ (.slice Ao116 t884.length co116 : Value).ownBlock)) (n := t889.length) (c := co124) ?_).2.2; exact (by (with_reducible repeat (first | apply Kd.R_alloc | apply Kd.R_drewN | apply Kd.R_drew)); exact (Kd.R_mono (Kd.R_far (p := ⟨gb893, 2, none⟩) (Kd.R_far (p := ⟨gb893, 1, none⟩) (Kd.R_far (p := ⟨gb893, 0, none⟩) (Kd.R_types HO891.out BK893.out (by decide)) (fun _ hk => hk.2) (.int .i64 t887)) (fun _ hk => hk.2) (.int .i64 t888)) (fun _ hk => hk.2) (.slice Ao124 t889.length co124)) (fun _ h_ => h_.1)))); (case side2 => exact (Kd.R_reads' HO891.out).2.1); (case side3 => refine (Kd.R_reads' (e := 3) (base := w.heap.size) (ok := fun k_ => (((some k_ ≠ (.slice Ao30 t877.length co30 : Value).ownBlock ∧ some k_ ≠ (.slice Ao37 t864.length co37 : Value).ownBlock) ∧ some k_ ≠ (.slice Ao116 t884.length co116 : Value).ownBlock) ∧ some k_ ≠ (.slice Ao124 t889.length co124 : Value).ownBlock)) (n := t851.length) (c := co23) ?_).2.2; exact (by (with_reducible repeat (first | apply Kd.R_alloc | apply Kd.R_drewN | apply Kd.R_drew)); exact (Kd.R_mono (Kd.R_far (p := ⟨gb893, 2, none⟩) (Kd.R_far (p := ⟨gb893, 1, none⟩) (Kd.R_far (p := ⟨gb893, 0, none⟩) (Kd.R_types HO_856002.out BK893.out (by decide)) (fun _ hk => hk.2) (.int .i64 t887)) (fun _ hk => hk.2) (.int .i64 t888)) (fun _ hk => hk.2) (.slice Ao124 t889.length co124)) (fun _ h_ => h_.1)))); (case side4 => exact (Kd.R_reads' HO_856002.out).2.1); rintro e w146 ⟨rfl, hb⟩; refine ⟨_, rfl, ?_⟩; have n0_ := Aside0.mk (Kd.R_below (by (with_reducible repeat (first | apply Kd.R_alloc | apply Kd.R_drewN | apply Kd.R_drew)); exact (Kd.R_mono (Kd.R_far (p := ⟨gb893, 2, none⟩) (Kd.R_far (p := ⟨gb893, 1, none⟩) (Kd.R_far (p := ⟨gb893, 0, none⟩) (Kd.R_types HO_856002.out BK893.out (by decide)) (fun _ hk => hk.2) (.int .i64 t887)) (fun _ hk => hk.2) (.int .i64 t888)) (fun _ hk => hk.2) (.slice Ao124 t889.length co124)) (fun _ h_ => h_.1))) hb); have n1_ := Aside0.mk (Kd.R_below (by (with_reducible repeat (first | apply Kd.R_alloc | apply Kd.R_drewN | apply Kd.R_drew)); exact (Kd.R_mono (Kd.R_far (p := ⟨gb893, 2, none⟩) (Kd.R_far (p := ⟨gb893, 1, none⟩) (Kd.R_far (p := ⟨gb893, 0, none⟩) (Kd.R_types HO_862002.out BK893.out (by decide)) (fun _ hk => hk.2) (.int .i64 t887)) (fun _ hk => hk.2) (.int .i64 t888)) (fun _ hk => hk.2) (.slice Ao124 t889.length co124)) (fun _ h_ => h_.1))) hb); have n2_ := Aside0.mk (Kd.R_below (by (with_reducible repeat (first | apply Kd.R_alloc | apply Kd.R_drewN | apply Kd.R_drew)); exact (Kd.R_mono (Kd.R_far (p := ⟨gb893, 2, none⟩) (Kd.R_far (p := ⟨gb893, 1, none⟩) (Kd.R_far (p := ⟨gb893, 0, none⟩) (Kd.R_types HO_869002.out BK893.out (by decide)) (fun _ hk => hk.2) (.int .i64 t887)) (fun _ hk => hk.2) (.int .i64 t888)) (fun _ hk => hk.2) (.slice Ao124 t889.length co124)) (fun _ h_ => h_.1))) hb); have n3_ := Aside0.mk (Kd.R_below (by (with_reducible repeat (first | apply Kd.R_alloc | apply Kd.R_drewN | apply Kd.R_drew)); exact (Kd.R_mono (Kd.R_far (p := ⟨gb893, 2, none⟩) (Kd.R_far (p := ⟨gb893, 1, none⟩) (Kd.R_far (p := ⟨gb893, 0, none⟩) (Kd.R_types HO886.out BK893.out (by decide)) (fun _ hk => hk.2) (.int .i64 t887)) (fun _ hk => hk.2) (.int .i64 t888)) (fun _ hk => hk.2) (.slice Ao124 t889.length co124)) (fun _ h_ => h_.1))) hb); have n4_ := Aside0.mk (Kd.R_below (by (with_reducible repeat (first | apply Kd.R_alloc | apply Kd.R_drewN | apply Kd.R_drew)); exact (Kd.R_mono (Kd.R_far (p := ⟨gb893, 2, none⟩) (Kd.R_far (p := ⟨gb893, 1, none⟩) (Kd.R_far (p := ⟨gb893, 0, none⟩) (Kd.R_types HO891.out BK893.out (by decide)) (fun _ hk => hk.2) (.int .i64 t887)) (fun _ hk => hk.2) (.int .i64 t888)) (fun _ hk => hk.2) (.slice Ao124 t889.length co124)) (fun _ h_ => h_.1))) hb); have n5_ := Aside0.mk (blk_below (g := gb842) (o := .cells #[.int .i64 a0_0, .int .i64 a0_1, .slice A0_2 l0_2.length c0_2] 36 (0, 0)) (by (with_reducible repeat (first | refine blk_drewN ?_ _ | refine blk_drew ?_ | refine blk_alloc ?_ _)); refine blk_far ?_ NB842_893.out _; (with_reducible repeat (first | refine blk_drewN ?_ _ | refine blk_drew ?_ | refine blk_alloc ?_ _)); refine blk_far ?_ NB842_893.out _; (with_reducible repeat (first | refine blk_drewN ?_ _ | refine blk_drew ?_ | refine blk_alloc ?_ _)); refine blk_far ?_ NB842_893.out _; (with_reducible repeat (first | refine blk_drewN ?_ _ | refine blk_drew ?_ | refine blk_alloc ?_ _)); exact BK842.out) hb); have n6_ := Aside0.mk (blk_below (g := gb855) (o := .cells #[.int .i64 t849, .int .i64 t850, .slice Ao23 t851.length co23] 26 (0, 0)) (by (with_reducible repeat (first | refine blk_drewN ?_ _ | refine blk_drew ?_ | refine blk_alloc ?_ _)); refine blk_far ?_ NB855_893.out _; (with_reducible repeat (first | refine blk_drewN ?_ _ | refine blk_drew ?_ | refine blk_alloc ?_ _)); refine blk_far ?_ NB855_893.out _; (with_reducible repeat (first | refine blk_drewN ?_ _ | refine blk_drew ?_ | refine blk_alloc ?_ _)); refine blk_far ?_ NB855_893.out _; (with_reducible repeat (first | refine blk_drewN ?_ _ | refine blk_drew ?_ | refine blk_alloc ?_ _)); exact BK855.out) hb); have n7_ := Aside0.mk (blk_below (g := gb861) (o := .cells #[.int .i64 t856, .int .i64 t857, .slice Ao30 t877.length co30] 26 (0, 0)) (by (with_reducible repeat (first | refine blk_drewN ?_ _ | refine blk_drew ?_ | refine blk_alloc ?_ _)); refine blk_far ?_ NB861_893.out _; (with_reducible repeat (first | refine blk_drewN ?_ _ | refine blk_drew ?_ | refine blk_alloc ?_ _)); refine blk_far ?_ NB861_893.out _; (with_reducible repeat (first | refine blk_drewN ?_ _ | refine blk_drew ?_ | refine blk_alloc ?_ _)); refine blk_far ?_ NB861_893.out _; (with_reducible repeat (first | refine blk_drewN ?_ _ | refine blk_drew ?_ | refine blk_alloc ?_ _)); exact BK861.out) hb); have n8_ := Aside0.mk (blk_below (g := gb868) (o := .cells #[.int .i64 t862, .int .i64 t863, .slice Ao37 t864.length co37] 26 (0, 0)) (by (with_reducible repeat (first | refine blk_drewN ?_ _ | refine blk_drew ?_ | refine blk_alloc ?_ _)); refine blk_far ?_ NB868_893.out _; (with_reducible repeat (first | refine blk_drewN ?_ _ | refine blk_drew ?_ | refine blk_alloc ?_ _)); refine blk_far ?_ NB868_893.out _; (with_reducible repeat (first | refine blk_drewN ?_ _ | refine blk_drew ?_ | refine blk_alloc ?_ _)); refine blk_far ?_ NB868_893.out _; (with_reducible repeat (first | refine blk_drewN ?_ _ | refine blk_drew ?_ | refine blk_alloc ?_ _)); exact BK868.out) hb); have n9_ := Aside0.mk (blk_below (g := gb893) (o := .cells #[.int .i64 t887, .int .i64 t888, .slice Ao124 t889.length co124] 26 (0, 0)) (by (with_reducible repeat (first | refine blk_drewN ?_ _ | refine blk_drew ?_ | refine blk_alloc ?_ _)); refine blk_put (cs := #[.int .i64 t887, .int .i64 t888, .slice none 0 0]) ?_ 2 _ rfl; (with_reducible repeat (first | refine blk_drewN ?_ _ | refine blk_drew ?_ | refine blk_alloc ?_ _)); refine blk_put (cs := #[.int .i64 t887, .int .i64 0, .slice none 0 0]) ?_ 1 _ rfl; (with_reducible repeat (first | refine blk_drewN ?_ _ | refine blk_drew ?_ | refine blk_alloc ?_ _)); refine blk_put (cs := #[.int .i64 0, .int .i64 0, .slice none 0 0]) ?_ 0 _ rfl; (with_reducible repeat (first | refine blk_drewN ?_ _ | refine blk_drew ?_ | refine blk_alloc ?_ _)); exact BK893.out) hb); have n10_ := Aside0.mk (below_step (by repeat (first | (with_reducible first | exact HB.out | apply below_alloc | apply pw_below_drewN | apply below_drew1 | refine below_set ?_ GE842.out | refine below_set ?_ GE855.out | refine below_set ?_ GE861.out | refine below_set ?_ GE868.out | refine below_set ?_ GE893.out) | exact HB.out)) hb); clear HO_856002; clear HO_862002; clear HO_869002; clear HO886; clear HO891; clear BK842; clear BK855; clear BK861; clear BK868; clear BK893; clear HB; have HO_856002 := n0_; have HO_862002 := n1_; have HO_869002 := n2_; have HO886 := n3_; have HO891 := n4_; have BK842 := n5_; have BK855 := n6_; have BK861 := n7_; have BK868 := n8_; have BK893 := n9_; have HB := n10_; clear n0_ n1_ n2_ n3_ n4_ n5_ n6_ n7_ n8_ n9_ n10_; (try clear hb); (try clear hb2); (try clear hk); (try clear hi)))
                                go_meet
                                case rel => exact ⟨_, (true), (by first | rfl | (simp; done) | (simp [*]; done)), H', ⟨by have := HJ11.out; have := HJ60.out; first | omega | exact Nat.le_refl _⟩, ⟨by (try simp only [hl862002_60]); (with_reducible repeat (first | apply Kd.R_alloc | apply Kd.R_drewN | apply Kd.R_drew)); exact Kd.R_mono HO_856002.out (fun _ hk => ⟨hk.1.1.1, ⟨hk.1.1.2, hk.2⟩⟩)⟩, ⟨by (try simp only [hl862002_60]); (with_reducible repeat (first | apply Kd.R_alloc | apply Kd.R_drewN | apply Kd.R_drew)); exact Kd.R_mono HO_862002.out (fun _ hk => ⟨hk.1.1.1, ⟨hk.1.1.2, hk.2⟩⟩)⟩, ⟨by (try simp only [hl862002_60]); (with_reducible repeat (first | apply Kd.R_alloc | apply Kd.R_drewN | apply Kd.R_drew)); exact Kd.R_mono HO_869002.out (fun _ hk => ⟨hk.1.1.1, ⟨hk.1.1.2, hk.2⟩⟩)⟩, ⟨by (try simp only [hl862002_60]); (with_reducible repeat (first | apply Kd.R_alloc | apply Kd.R_drewN | apply Kd.R_drew)); exact Kd.R_mono HO891.out (fun _ hk => ⟨hk.1.1.1.2, ⟨hk.1.1.2, hk.1.2⟩⟩)⟩, ⟨by (try simp only [hl862002_60]); (with_reducible repeat (first | refine blk_drewN ?_ _ | refine blk_drew ?_ | refine blk_alloc ?_ _)); exact BK842.out⟩, ⟨by (try simp only [hl862002_60]); (with_reducible repeat (first | refine blk_drewN ?_ _ | refine blk_drew ?_ | refine blk_alloc ?_ _)); exact BK855.out⟩, ⟨by (try simp only [hl862002_60]); (with_reducible repeat (first | refine blk_drewN ?_ _ | refine blk_drew ?_ | refine blk_alloc ?_ _)); exact BK861.out⟩, ⟨by (try simp only [hl862002_60]); (with_reducible repeat (first | refine blk_drewN ?_ _ | refine blk_drew ?_ | refine blk_alloc ?_ _)); exact BK868.out⟩, ⟨by (try simp only [hl862002_60]); (with_reducible repeat (first | refine blk_drewN ?_ _ | refine blk_drew ?_ | refine blk_alloc ?_ _)); exact BK893.out⟩, ⟨by repeat (first | (with_reducible first | exact HB.out | apply below_alloc | apply pw_below_drewN | apply below_drew1 | refine below_set ?_ GE842.out | refine below_set ?_ GE855.out | refine below_set ?_ GE861.out | refine below_set ?_ GE868.out | refine below_set ?_ GE893.out) | exact HB.out)⟩⟩
                          case rest =>
                            as_aux_lemma =>
                              clear HC104
                              try clear c1
                              try clear c2
                              try clear p2
                              try clear c3
                              try clear c4
                              try clear c4b0
                              try clear c5
                              try clear c6
                              try clear c7
                              try clear c8
                              try clear c9
                              try clear c10
                              try clear c11
                              try clear c12
                              try clear c13
                              try clear c14
                              try clear c17
                              try clear c20
                              try clear c21
                              try clear c22
                              try clear c25
                              try clear c27
                              try clear c28
                              try clear c29
                              try clear c33
                              try clear c34
                              try clear c35
                              try clear c39
                              try clear c40
                              try clear c41
                              try clear c42
                              try clear c44
                              try clear c45
                              try clear c48
                              try clear c49
                              try clear c50
                              try clear c52
                              try clear c53
                              try clear c56
                              try clear c59
                              try clear c66
                              try clear c67
                              try clear c68
                              try clear c71
                              try clear c71b0
                              try clear c73
                              try clear c74
                              try clear c75
                              try clear c76
                              try clear c78
                              try clear c79
                              try clear c82
                              try clear c83
                              try clear c84
                              try clear c86
                              try clear c87
                              try clear c90
                              try clear c93
                              try clear c93b0
                              try clear c94
                              try clear c95
                              try clear c96
                              try clear c101
                              try clear c101b0
                              try clear c101b1
                              try clear c105
                              try clear c106
                              try clear c107
                              try clear c112
                              try clear c113
                              try clear c119
                              try clear c120
                              try clear c121
                              try clear c122
                              try clear c126
                              try clear c127
                              try clear c128
                              try clear c129
                              try clear c130
                              try clear c132
                              try clear c133
                              try clear c134
                              try clear c137
                              try clear c138
                              try clear c139
                              try clear c140
                              try clear c142
                              try clear c143
                              try clear c144
                              try clear hcz108_0
                              try clear hcz108_1
                              try clear hcz108_2
                              try clear hcz110_0
                              try clear hcz110_1
                              try clear hcz110_2
                              try clear hcz114_0
                              try clear hcz114_1
                              try clear hcz114_2
                              try clear hcz123_0
                              try clear hcz123_1
                              try clear hcz123_2
                              try clear hcz131_0
                              try clear hcz131_1
                              try clear hcz131_2
                              try clear hcz135_0
                              try clear hcz135_1
                              try clear hcz135_2
                              try clear hcz141_0
                              try clear hcz141_1
                              try clear hcz141_2
                              try clear hcz145_0
                              try clear hcz145_1
                              try clear hcz145_2
                              try clear hcz14_0
                              try clear hcz14_1
                              try clear hcz14_2
                              try clear hcz16_0
                              try clear hcz16_1
                              try clear hcz16_2
                              try clear hcz22_0
                              try clear hcz22_1
                              try clear hcz22_2
                              try clear hcz24_0
                              try clear hcz24_1
                              try clear hcz24_2
                              try clear hcz29_0
                              try clear hcz29_1
                              try clear hcz29_2
                              try clear hcz36_0
                              try clear hcz36_1
                              try clear hcz36_2
                              try clear hcz43_0
                              try clear hcz43_1
                              try clear hcz43_2
                              try clear hcz46_0
                              try clear hcz46_1
                              try clear hcz46_2
                              try clear hcz51_0
                              try clear hcz51_1
                              try clear hcz51_2
                              try clear hcz54_0
                              try clear hcz54_1
                              try clear hcz54_2
                              try clear hcz69_0
                              try clear hcz69_1
                              try clear hcz69_2
                              try clear hcz6_0
                              try clear hcz6_1
                              try clear hcz6_2
                              try clear hcz77_0
                              try clear hcz77_1
                              try clear hcz77_2
                              try clear hcz80_0
                              try clear hcz80_1
                              try clear hcz80_2
                              try clear hcz85_0
                              try clear hcz85_1
                              try clear hcz85_2
                              try clear hcz88_0
                              try clear hcz88_1
                              try clear hcz88_2
                              try clear hcz97_0
                              try clear hcz97_1
                              try clear hcz97_2
                              try clear hcz99_0
                              try clear hcz99_1
                              try clear hcz99_2
                              try clear hfz108_0
                              try clear hfz108_1
                              try clear hfz108_2
                              try clear hfz110_0
                              try clear hfz110_1
                              try clear hfz110_2
                              try clear hfz114_0
                              try clear hfz114_1
                              try clear hfz114_2
                              try clear hfz123_0
                              try clear hfz123_1
                              try clear hfz123_2
                              try clear hfz131_0
                              try clear hfz131_1
                              try clear hfz131_2
                              try clear hfz135_0
                              try clear hfz135_1
                              try clear hfz135_2
                              try clear hfz141_0
                              try clear hfz141_1
                              try clear hfz141_2
                              try clear hfz145_0
                              try clear hfz145_1
                              try clear hfz145_2
                              try clear hfz14_0
                              try clear hfz14_1
                              try clear hfz14_2
                              try clear hfz16_0
                              try clear hfz16_1
                              try clear hfz16_2
                              try clear hfz22_0
                              try clear hfz22_1
                              try clear hfz22_2
                              try clear hfz24_0
                              try clear hfz24_1
                              try clear hfz24_2
                              try clear hfz29_0
                              try clear hfz29_1
                              try clear hfz29_2
                              try clear hfz36_0
                              try clear hfz36_1
                              try clear hfz36_2
                              try clear hfz43_0
                              try clear hfz43_1
                              try clear hfz43_2
                              try clear hfz46_0
                              try clear hfz46_1
                              try clear hfz46_2
                              try clear hfz51_0
                              try clear hfz51_1
                              try clear hfz51_2
                              try clear hfz54_0
                              try clear hfz54_1
                              try clear hfz54_2
                              try clear hfz69_0
                              try clear hfz69_1
                              try clear hfz69_2
                              try clear hfz6_0
                              try clear hfz6_1
                              try clear hfz6_2
                              try clear hfz77_0
                              try clear hfz77_1
                              try clear hfz77_2
                              try clear hfz80_0
                              try clear hfz80_1
                              try clear hfz80_2
                              try clear hfz85_0
                              try clear hfz85_1
                              try clear hfz85_2
                              try clear hfz88_0
                              try clear hfz88_1
                              try clear hfz88_2
                              try clear hfz97_0
                              try clear hfz97_1
                              try clear hfz97_2
                              try clear hfz99_0
                              try clear hfz99_1
                              try clear hfz99_2
                              try clear p2
                              obtain ⟨kq, x92_103, rfl, HA, HJ103, HO_856002, HO_862002, HO_869002, HO_894002, BK842, BK855, BK861, BK868, BK893, HB⟩ := hcut
                              have hl869002_103 := (Kd.R_reads' HO_869002.out).1
                              rw [hl869002_103] at HO_869002
                              (try simp only [hl869002_103])
                              (try simp only [hl869002_103] at BK842)
                              (try simp only [hl869002_103] at BK855)
                              (try simp only [hl869002_103] at BK861)
                              (try simp only [hl869002_103] at BK868)
                              (try simp only [hl869002_103] at BK893)
                              (try simp only [hl869002_103] at HO_856002)
                              (try simp only [hl869002_103] at HO_862002)
                              (try simp only [hl869002_103] at HO_894002)
                              cases kq with
                              | zero => exact absurd HA.out (by simp [laws_FnExactRaiseSlopes.j2])
                              | succ kj103 =>
                                have H := HA.out
                                clear HA
                                simp only [laws_FnExactRaiseSlopes.j2] at H
                                by_cases c147 : x92_103 = true
                                · subst c147
                                  have H1 : (some false) = some r := by rw [if_pos rfl] at H; exact H
                                  exact absurd ((Option.some.inj H1).trans hrt_) (by decide)
                                · replace c147 := Bool.eq_false_iff.mpr c147
                                  subst c147
                                  have H1 : ((laws_heldField.f kj103 t862 t863 t880 1).bind fun t895 => (if t895 < 0 then (some false) else (if t895 = t879 then (some true) else (some false)))) = some r := by rw [if_neg (show ¬ (false = true) by decide)] at H; exact H
                                  clear H
                                  have H := H1
                                  clear H1
                                  replace H := Option.bind_eq_some_iff.mp H
                                  obtain ⟨t895, A1480, H⟩ := H
                                  replace H : (if t895 < 0 then (some false) else (if t895 = t879 then (some true) else (some false))) = some r := H
                                  have A148 := Aside0.mk A1480
                                  clear A1480
                                  by_cases c149 : t895 < 0
                                  · rw [if_pos c149] at H
                                    have c149b0 : decide (t895 < 0) = true := decide_eq_true c149
                                    clear c149
                                    obtain rfl := Option.some.inj H
                                    have hnb150 := NB868_842.out
                                    have hnc150 := NB842_868.out
                                    have hnb151 := NB868_855.out
                                    have hnc151 := NB855_868.out
                                    have hnb152 := NB868_861.out
                                    have hnc152 := NB861_868.out
                                    have hnb153 := NB868_893.out
                                    have hnc153 := NB893_868.out
                                    have hcz154_0 : wc.cell? ⟨gb868, 0, none⟩ = some (.int .i64 t862) := (blk_cell BK868.out 0).trans rfl
                                    have hcz154_1 : wc.cell? ⟨gb868, 1, none⟩ = some (.int .i64 t863) := (blk_cell BK868.out 1).trans rfl
                                    have hcz154_2 : wc.cell? ⟨gb868, 2, none⟩ = some (.slice Ao37 t880.length co37) := (blk_cell BK868.out 2).trans rfl
                                    have hfz154_0 := blk_frozen BK868.out 0
                                    have hfz154_1 := blk_frozen BK868.out 1
                                    have hfz154_2 := blk_frozen BK868.out 2
                                    go_wp2_with (first | ((with_reducible refine gate_callee (f := 29) rfl ?_); refine goesL_ (some 95) rfl rfl Try.func29 (by kernel_rfl) rfl #[.agg #[.int .i64 t862, .int .i64 t863, .slice Ao37 t880.length co37], .int .i64 1] rfl (by (try simp only [List.map_toArray, List.map_cons, List.map_nil]); first | done | rfl | (simp only [List.length_drop, List.length_take]; rfl)) ?_; (with_reducible refine (laws_heldField.calls kj103 t862 t863 _ _ t880 1 t895 _ ?side1 ?side2 A148.out).mono ?_); (case side1 => repeat (first | exact (Kd.R_reads' HO_869002.out).2.2 | (with_reducible refine Kd.C_alloc ?_ _) | (with_reducible refine Kd.C_drewN ?_ _) | (with_reducible refine Kd.C_drew ?_))); (case side2 => exact (Kd.R_reads' HO_869002.out).2.1); rintro e w155 ⟨rfl, hb⟩; refine ⟨_, rfl, ?_⟩; have n0_ := Aside0.mk (Kd.R_below (by (with_reducible repeat (first | apply Kd.R_alloc | apply Kd.R_drewN | apply Kd.R_drew)); exact HO_856002.out) hb); have n1_ := Aside0.mk (Kd.R_below (by (with_reducible repeat (first | apply Kd.R_alloc | apply Kd.R_drewN | apply Kd.R_drew)); exact HO_862002.out) hb); have n2_ := Aside0.mk (Kd.R_below (by (with_reducible repeat (first | apply Kd.R_alloc | apply Kd.R_drewN | apply Kd.R_drew)); exact HO_869002.out) hb); have n3_ := Aside0.mk (Kd.R_below (by (with_reducible repeat (first | apply Kd.R_alloc | apply Kd.R_drewN | apply Kd.R_drew)); exact HO_894002.out) hb); have n4_ := Aside0.mk (blk_below (g := gb842) (o := .cells #[.int .i64 a0_0, .int .i64 a0_1, .slice A0_2 l0_2.length c0_2] 36 (0, 0)) BK842.out hb); have n5_ := Aside0.mk (blk_below (g := gb855) (o := .cells #[.int .i64 t849, .int .i64 t850, .slice Ao23 t851.length co23] 26 (0, 0)) BK855.out hb); have n6_ := Aside0.mk (blk_below (g := gb861) (o := .cells #[.int .i64 t856, .int .i64 t857, .slice Ao30 t877.length co30] 26 (0, 0)) BK861.out hb); have n7_ := Aside0.mk (blk_below (g := gb868) (o := .cells #[.int .i64 t862, .int .i64 t863, .slice Ao37 t880.length co37] 26 (0, 0)) BK868.out hb); have n8_ := Aside0.mk (blk_below (g := gb893) (o := .cells #[.int .i64 t887, .int .i64 t888, .slice Ao124 t889.length co124] 26 (0, 0)) BK893.out hb); have n9_ := Aside0.mk (below_step (by repeat (first | (with_reducible first | exact HB.out | apply below_alloc | apply pw_below_drewN | apply below_drew1 | refine below_set ?_ GE842.out | refine below_set ?_ GE855.out | refine below_set ?_ GE861.out | refine below_set ?_ GE868.out | refine below_set ?_ GE893.out) | exact HB.out)) hb); clear HO_856002; clear HO_862002; clear HO_869002; clear HO_894002; clear BK842; clear BK855; clear BK861; clear BK868; clear BK893; clear HB; have HO_856002 := n0_; have HO_862002 := n1_; have HO_869002 := n2_; have HO_894002 := n3_; have BK842 := n4_; have BK855 := n5_; have BK861 := n6_; have BK868 := n7_; have BK893 := n8_; have HB := n9_; clear n0_ n1_ n2_ n3_ n4_ n5_ n6_ n7_ n8_ n9_; (try clear hb); (try clear hb2); (try clear hk); (try clear hi)))
                                    go_ret
                                    exact ⟨by first | rfl | (simp [errW_none, errW_some] <;> rfl) | (simp [*, errW_none, errW_some] <;> rfl), by repeat (first | (with_reducible first | exact HB.out | apply below_alloc | apply pw_below_drewN | apply below_drew1 | refine below_set ?_ GE842.out | refine below_set ?_ GE855.out | refine below_set ?_ GE861.out | refine below_set ?_ GE868.out | refine below_set ?_ GE893.out) | exact HB.out)⟩
                                  · rw [if_neg c149] at H
                                    have c149b0 : decide (t895 < 0) = false := decide_eq_false c149
                                    clear c149
                                    by_cases c156 : t895 = t879
                                    · rw [if_pos c156] at H
                                      have c156b0 : (t895 == t879) = true := beq_iff_eq.mpr c156
                                      have c156b1 : (t895 != t879) = false := bne_eq_false_iff_eq.mpr c156
                                      clear c156
                                      obtain rfl := Option.some.inj H
                                      have hnb157 := NB868_842.out
                                      have hnc157 := NB842_868.out
                                      have hnb158 := NB868_855.out
                                      have hnc158 := NB855_868.out
                                      have hnb159 := NB868_861.out
                                      have hnc159 := NB861_868.out
                                      have hnb160 := NB868_893.out
                                      have hnc160 := NB893_868.out
                                      have hcz161_0 : wc.cell? ⟨gb868, 0, none⟩ = some (.int .i64 t862) := (blk_cell BK868.out 0).trans rfl
                                      have hcz161_1 : wc.cell? ⟨gb868, 1, none⟩ = some (.int .i64 t863) := (blk_cell BK868.out 1).trans rfl
                                      have hcz161_2 : wc.cell? ⟨gb868, 2, none⟩ = some (.slice Ao37 t880.length co37) := (blk_cell BK868.out 2).trans rfl
                                      have hfz161_0 := blk_frozen BK868.out 0
                                      have hfz161_1 := blk_frozen BK868.out 1
                                      have hfz161_2 := blk_frozen BK868.out 2
                                      go_wp2_with (first | ((with_reducible refine gate_callee (f := 29) rfl ?_); refine goesL_ (some 95) rfl rfl Try.func29 (by kernel_rfl) rfl #[.agg #[.int .i64 t862, .int .i64 t863, .slice Ao37 t880.length co37], .int .i64 1] rfl (by (try simp only [List.map_toArray, List.map_cons, List.map_nil]); first | done | rfl | (simp only [List.length_drop, List.length_take]; rfl)) ?_; (with_reducible refine (laws_heldField.calls kj103 t862 t863 _ _ t880 1 t895 _ ?side1 ?side2 A148.out).mono ?_); (case side1 => repeat (first | exact (Kd.R_reads' HO_869002.out).2.2 | (with_reducible refine Kd.C_alloc ?_ _) | (with_reducible refine Kd.C_drewN ?_ _) | (with_reducible refine Kd.C_drew ?_))); (case side2 => exact (Kd.R_reads' HO_869002.out).2.1); rintro e w162 ⟨rfl, hb⟩; refine ⟨_, rfl, ?_⟩; have n0_ := Aside0.mk (Kd.R_below (by (with_reducible repeat (first | apply Kd.R_alloc | apply Kd.R_drewN | apply Kd.R_drew)); exact HO_856002.out) hb); have n1_ := Aside0.mk (Kd.R_below (by (with_reducible repeat (first | apply Kd.R_alloc | apply Kd.R_drewN | apply Kd.R_drew)); exact HO_862002.out) hb); have n2_ := Aside0.mk (Kd.R_below (by (with_reducible repeat (first | apply Kd.R_alloc | apply Kd.R_drewN | apply Kd.R_drew)); exact HO_869002.out) hb); have n3_ := Aside0.mk (Kd.R_below (by (with_reducible repeat (first | apply Kd.R_alloc | apply Kd.R_drewN | apply Kd.R_drew)); exact HO_894002.out) hb); have n4_ := Aside0.mk (blk_below (g := gb842) (o := .cells #[.int .i64 a0_0, .int .i64 a0_1, .slice A0_2 l0_2.length c0_2] 36 (0, 0)) BK842.out hb); have n5_ := Aside0.mk (blk_below (g := gb855) (o := .cells #[.int .i64 t849, .int .i64 t850, .slice Ao23 t851.length co23] 26 (0, 0)) BK855.out hb); have n6_ := Aside0.mk (blk_below (g := gb861) (o := .cells #[.int .i64 t856, .int .i64 t857, .slice Ao30 t877.length co30] 26 (0, 0)) BK861.out hb); have n7_ := Aside0.mk (blk_below (g := gb868) (o := .cells #[.int .i64 t862, .int .i64 t863, .slice Ao37 t880.length co37] 26 (0, 0)) BK868.out hb); have n8_ := Aside0.mk (blk_below (g := gb893) (o := .cells #[.int .i64 t887, .int .i64 t888, .slice Ao124 t889.length co124] 26 (0, 0)) BK893.out hb); have n9_ := Aside0.mk (below_step (by repeat (first | (with_reducible first | exact HB.out | apply below_alloc | apply pw_below_drewN | apply below_drew1 | refine below_set ?_ GE842.out | refine below_set ?_ GE855.out | refine below_set ?_ GE861.out | refine below_set ?_ GE868.out | refine below_set ?_ GE893.out) | exact HB.out)) hb); clear HO_856002; clear HO_862002; clear HO_869002; clear HO_894002; clear BK842; clear BK855; clear BK861; clear BK868; clear BK893; clear HB; have HO_856002 := n0_; have HO_862002 := n1_; have HO_869002 := n2_; have HO_894002 := n3_; have BK842 := n4_; have BK855 := n5_; have BK861 := n6_; have BK868 := n7_; have BK893 := n8_; have HB := n9_; clear n0_ n1_ n2_ n3_ n4_ n5_ n6_ n7_ n8_ n9_; (try clear hb); (try clear hb2); (try clear hk); (try clear hi)))
                                      go_ret
                                      exact ⟨by first | rfl | (simp [errW_none, errW_some] <;> rfl) | (simp [*, errW_none, errW_some] <;> rfl), by repeat (first | (with_reducible first | exact HB.out | apply below_alloc | apply pw_below_drewN | apply below_drew1 | refine below_set ?_ GE842.out | refine below_set ?_ GE855.out | refine below_set ?_ GE861.out | refine below_set ?_ GE868.out | refine below_set ?_ GE893.out) | exact HB.out)⟩
                                    · rw [if_neg c156] at H
                                      have c156b0 : (t895 == t879) = false := beq_eq_false_iff_ne.mpr c156
                                      have c156b1 : (t895 != t879) = true := bne_iff_ne.mpr c156
                                      obtain rfl := Option.some.inj H
                                      have hnb163 := NB868_842.out
                                      have hnc163 := NB842_868.out
                                      have hnb164 := NB868_855.out
                                      have hnc164 := NB855_868.out
                                      have hnb165 := NB868_861.out
                                      have hnc165 := NB861_868.out
                                      have hnb166 := NB868_893.out
                                      have hnc166 := NB893_868.out
                                      have hcz167_0 : wc.cell? ⟨gb868, 0, none⟩ = some (.int .i64 t862) := (blk_cell BK868.out 0).trans rfl
                                      have hcz167_1 : wc.cell? ⟨gb868, 1, none⟩ = some (.int .i64 t863) := (blk_cell BK868.out 1).trans rfl
                                      have hcz167_2 : wc.cell? ⟨gb868, 2, none⟩ = some (.slice Ao37 t880.length co37) := (blk_cell BK868.out 2).trans rfl
                                      have hfz167_0 := blk_frozen BK868.out 0
                                      have hfz167_1 := blk_frozen BK868.out 1
                                      have hfz167_2 := blk_frozen BK868.out 2
                                      go_wp2_with (first | ((with_reducible refine gate_callee (f := 29) rfl ?_); refine goesL_ (some 95) rfl rfl Try.func29 (by kernel_rfl) rfl #[.agg #[.int .i64 t862, .int .i64 t863, .slice Ao37 t880.length co37], .int .i64 1] rfl (by (try simp only [List.map_toArray, List.map_cons, List.map_nil]); first | done | rfl | (simp only [List.length_drop, List.length_take]; rfl)) ?_; (with_reducible refine (laws_heldField.calls kj103 t862 t863 _ _ t880 1 t895 _ ?side1 ?side2 A148.out).mono ?_); (case side1 => repeat (first | exact (Kd.R_reads' HO_869002.out).2.2 | (with_reducible refine Kd.C_alloc ?_ _) | (with_reducible refine Kd.C_drewN ?_ _) | (with_reducible refine Kd.C_drew ?_))); (case side2 => exact (Kd.R_reads' HO_869002.out).2.1); rintro e w168 ⟨rfl, hb⟩; refine ⟨_, rfl, ?_⟩; have n0_ := Aside0.mk (Kd.R_below (by (with_reducible repeat (first | apply Kd.R_alloc | apply Kd.R_drewN | apply Kd.R_drew)); exact HO_856002.out) hb); have n1_ := Aside0.mk (Kd.R_below (by (with_reducible repeat (first | apply Kd.R_alloc | apply Kd.R_drewN | apply Kd.R_drew)); exact HO_862002.out) hb); have n2_ := Aside0.mk (Kd.R_below (by (with_reducible repeat (first | apply Kd.R_alloc | apply Kd.R_drewN | apply Kd.R_drew)); exact HO_869002.out) hb); have n3_ := Aside0.mk (Kd.R_below (by (with_reducible repeat (first | apply Kd.R_alloc | apply Kd.R_drewN | apply Kd.R_drew)); exact HO_894002.out) hb); have n4_ := Aside0.mk (blk_below (g := gb842) (o := .cells #[.int .i64 a0_0, .int .i64 a0_1, .slice A0_2 l0_2.length c0_2] 36 (0, 0)) BK842.out hb); have n5_ := Aside0.mk (blk_below (g := gb855) (o := .cells #[.int .i64 t849, .int .i64 t850, .slice Ao23 t851.length co23] 26 (0, 0)) BK855.out hb); have n6_ := Aside0.mk (blk_below (g := gb861) (o := .cells #[.int .i64 t856, .int .i64 t857, .slice Ao30 t877.length co30] 26 (0, 0)) BK861.out hb); have n7_ := Aside0.mk (blk_below (g := gb868) (o := .cells #[.int .i64 t862, .int .i64 t863, .slice Ao37 t880.length co37] 26 (0, 0)) BK868.out hb); have n8_ := Aside0.mk (blk_below (g := gb893) (o := .cells #[.int .i64 t887, .int .i64 t888, .slice Ao124 t889.length co124] 26 (0, 0)) BK893.out hb); have n9_ := Aside0.mk (below_step (by repeat (first | (with_reducible first | exact HB.out | apply below_alloc | apply pw_below_drewN | apply below_drew1 | refine below_set ?_ GE842.out | refine below_set ?_ GE855.out | refine below_set ?_ GE861.out | refine below_set ?_ GE868.out | refine below_set ?_ GE893.out) | exact HB.out)) hb); clear HO_856002; clear HO_862002; clear HO_869002; clear HO_894002; clear BK842; clear BK855; clear BK861; clear BK868; clear BK893; clear HB; have HO_856002 := n0_; have HO_862002 := n1_; have HO_869002 := n2_; have HO_894002 := n3_; have BK842 := n4_; have BK855 := n5_; have BK861 := n6_; have BK868 := n7_; have BK893 := n8_; have HB := n9_; clear n0_ n1_ n2_ n3_ n4_ n5_ n6_ n7_ n8_ n9_; (try clear hb); (try clear hb2); (try clear hk); (try clear hi)))
                                      go_ret
                                      exact ⟨by first | rfl | (simp [errW_none, errW_some] <;> rfl) | (simp [*, errW_none, errW_some] <;> rfl), by repeat (first | (with_reducible first | exact HB.out | apply below_alloc | apply pw_below_drewN | apply below_drew1 | refine below_set ?_ GE842.out | refine below_set ?_ GE855.out | refine below_set ?_ GE861.out | refine below_set ?_ GE868.out | refine below_set ?_ GE893.out) | exact HB.out)⟩
                        · rw [if_neg c101] at H
                          have c101b0 : (t881 == t879) = false := beq_eq_false_iff_ne.mpr c101
                          have c101b1 : (t881 != t879) = true := bne_iff_ne.mpr c101
                          obtain rfl := Option.some.inj H
                          have hnb169 := NB868_842.out
                          have hnc169 := NB842_868.out
                          have hnb170 := NB868_855.out
                          have hnc170 := NB855_868.out
                          have hnb171 := NB868_861.out
                          have hnc171 := NB861_868.out
                          have hcz172_0 : wc.cell? ⟨gb868, 0, none⟩ = some (.int .i64 t862) := (blk_cell BK868.out 0).trans rfl
                          have hcz172_1 : wc.cell? ⟨gb868, 1, none⟩ = some (.int .i64 t863) := (blk_cell BK868.out 1).trans rfl
                          have hcz172_2 : wc.cell? ⟨gb868, 2, none⟩ = some (.slice Ao37 t864.length co37) := (blk_cell BK868.out 2).trans rfl
                          have hfz172_0 := blk_frozen BK868.out 0
                          have hfz172_1 := blk_frozen BK868.out 1
                          have hfz172_2 := blk_frozen BK868.out 2
                          go_wp2_with (first | ((with_reducible refine gate_callee (f := 27) rfl ?_); refine goesL_ (some 68) rfl rfl Try.func27 (by kernel_rfl) rfl #[.agg #[.int .i64 t862, .int .i64 t863, .slice Ao37 t864.length co37], .int .i64 1] rfl (by (try simp only [List.map_toArray, List.map_cons, List.map_nil]); first | done | rfl | (simp only [List.length_drop, List.length_take]; rfl)) ?_; (with_reducible refine (laws_markField.calls kj60 t862 t863 (fun k_ => some k_ = (.slice Ao37 t864.length co37 : Value).ownBlock) (.slice Ao37 t864.length co37) t864 1 t879 t880 w _ ?side1 ?side2 A91.out).mono ?_); (case side1 => repeat (first | (with_reducible first | exact HB.out | apply below_alloc | apply pw_below_drewN | apply below_drew1 | refine below_set ?_ GE842.out | refine below_set ?_ GE855.out | refine below_set ?_ GE861.out | refine below_set ?_ GE868.out) | exact HB.out)); (case side2 => exact Kd.R_tight rfl HO_869002.out); rintro e w173 ⟨rfl, hy0, hb, hkp⟩; refine ⟨_, rfl, ?_⟩; have n0_ := Aside0.mk (Kd.R_mono (ok' := fun k_ => some k_ ≠ (.slice Ao30 t877.length co30 : Value).ownBlock ∧ some k_ ≠ (.slice Ao37 t864.length co37 : Value).ownBlock) (Kd.R_keptB (HO_856002.out) hkp (fun k_ hk_ hs_ => (hk_.2) hs_)) (fun k_ hk_ => ⟨hk_.1.1, hk_.1.2⟩)); have n1_ := Aside0.mk (Kd.R_mono (ok' := fun k_ => some k_ ≠ (.slice Ao23 t851.length co23 : Value).ownBlock ∧ some k_ ≠ (.slice Ao37 t864.length co37 : Value).ownBlock) (Kd.R_keptB (HO_862002.out) hkp (fun k_ hk_ hs_ => (hk_.2) hs_)) (fun k_ hk_ => ⟨hk_.1.1, hk_.1.2⟩)); have n2_ := Aside0.mk (Kd.R_reok rfl hy0 (fun k_ e_ => HO_869002.out.1 k_ e_)); have n3_ := Aside0.mk (blk_kept BK842.out hkp (fun hs_ => (fun e_ => (Kd.R_ne HO_869002.out BK842.out (by decide)) e_) hs_)); have n4_ := Aside0.mk (blk_kept BK855.out hkp (fun hs_ => (fun e_ => (Kd.R_ne HO_869002.out BK855.out (by decide)) e_) hs_)); have n5_ := Aside0.mk (blk_kept BK861.out hkp (fun hs_ => (fun e_ => (Kd.R_ne HO_869002.out BK861.out (by decide)) e_) hs_)); have n6_ := Aside0.mk (blk_kept BK868.out hkp (fun hs_ => (fun e_ => (Kd.R_ne HO_869002.out BK868.out (by decide)) e_) hs_)); have n7_ := Aside0.mk (hb); clear HO_856002; clear HO_862002; clear HO_869002; clear BK842; clear BK855; clear BK861; clear BK868; clear HB; have HO_856002 := n0_; have HO_862002 := n1_; have HO_869002 := n2_; have BK842 := n3_; have BK855 := n4_; have BK861 := n5_; have BK868 := n6_; have HB := n7_; clear n0_ n1_ n2_ n3_ n4_ n5_ n6_ n7_; (try clear hb); (try clear hkp); (try clear hy0); have hcz174_0 : w173.cell? ⟨gb868, 0, none⟩ = some (.int .i64 t862) := (blk_cell BK868.out 0).trans rfl; have hcz174_1 : w173.cell? ⟨gb868, 1, none⟩ = some (.int .i64 t863) := (blk_cell BK868.out 1).trans rfl; have hcz174_2 : w173.cell? ⟨gb868, 2, none⟩ = some (.slice Ao37 t864.length co37) := (blk_cell BK868.out 2).trans rfl; have hfz174_0 := blk_frozen BK868.out 0; have hfz174_1 := blk_frozen BK868.out 1; have hfz174_2 := blk_frozen BK868.out 2) | ((with_reducible refine gate_callee (f := 29) rfl ?_); refine goesL_ (some 71) rfl rfl Try.func29 (by kernel_rfl) rfl #[.agg #[.int .i64 t862, .int .i64 t863, .slice Ao37 t880.length co37], .int .i64 1] rfl (by (try simp only [List.map_toArray, List.map_cons, List.map_nil]); first | done | (rw [show t880.length = t864.length from (Kd.R_reads' HO_869002.out).1.symm] <;> rfl) | rfl | (simp only [List.length_drop, List.length_take]; rfl)) ?_; (with_reducible refine (laws_heldField.calls kj60 t862 t863 _ _ t880 1 t881 _ ?side1 ?side2 A92.out).mono ?_); (case side1 => repeat (first | exact (Kd.R_reads' HO_869002.out).2.2 | (with_reducible refine Kd.C_alloc ?_ _) | (with_reducible refine Kd.C_drewN ?_ _) | (with_reducible refine Kd.C_drew ?_))); (case side2 => rw [show t880.length = t864.length from (Kd.R_reads' HO_869002.out).1.symm]; exact (Kd.R_reads' HO_869002.out).2.1); rintro e w175 ⟨rfl, hb⟩; refine ⟨_, rfl, ?_⟩; have n0_ := Aside0.mk (Kd.R_below (by (with_reducible repeat (first | apply Kd.R_alloc | apply Kd.R_drewN | apply Kd.R_drew)); exact HO_856002.out) hb); have n1_ := Aside0.mk (Kd.R_below (by (with_reducible repeat (first | apply Kd.R_alloc | apply Kd.R_drewN | apply Kd.R_drew)); exact HO_862002.out) hb); have n2_ := Aside0.mk (Kd.R_below (by (with_reducible repeat (first | apply Kd.R_alloc | apply Kd.R_drewN | apply Kd.R_drew)); exact HO_869002.out) hb); have n3_ := Aside0.mk (blk_below (g := gb842) (o := .cells #[.int .i64 a0_0, .int .i64 a0_1, .slice A0_2 l0_2.length c0_2] 36 (0, 0)) BK842.out hb); have n4_ := Aside0.mk (blk_below (g := gb855) (o := .cells #[.int .i64 t849, .int .i64 t850, .slice Ao23 t851.length co23] 26 (0, 0)) BK855.out hb); have n5_ := Aside0.mk (blk_below (g := gb861) (o := .cells #[.int .i64 t856, .int .i64 t857, .slice Ao30 t877.length co30] 26 (0, 0)) BK861.out hb); have n6_ := Aside0.mk (blk_below (g := gb868) (o := .cells #[.int .i64 t862, .int .i64 t863, .slice Ao37 t864.length co37] 26 (0, 0)) BK868.out hb); have n7_ := Aside0.mk (below_step (by repeat (first | (with_reducible first | exact HB.out | apply below_alloc | apply pw_below_drewN | apply below_drew1 | refine below_set ?_ GE842.out | refine below_set ?_ GE855.out | refine below_set ?_ GE861.out | refine below_set ?_ GE868.out) | exact HB.out)) hb); clear HO_856002; clear HO_862002; clear HO_869002; clear BK842; clear BK855; clear BK861; clear BK868; clear HB; have HO_856002 := n0_; have HO_862002 := n1_; have HO_869002 := n2_; have BK842 := n3_; have BK855 := n4_; have BK861 := n5_; have BK868 := n6_; have HB := n7_; clear n0_ n1_ n2_ n3_ n4_ n5_ n6_ n7_; (try clear hb); (try clear hb2); (try clear hk); (try clear hi)))
                          go_ret
                          exact ⟨by first | rfl | (simp [errW_none, errW_some] <;> rfl) | (simp [*, errW_none, errW_some] <;> rfl), by repeat (first | (with_reducible first | exact HB.out | apply below_alloc | apply pw_below_drewN | apply below_drew1 | refine below_set ?_ GE842.out | refine below_set ?_ GE855.out | refine below_set ?_ GE861.out | refine below_set ?_ GE868.out) | exact HB.out)⟩
            · replace c59 := Bool.eq_false_iff.mpr c59
              subst c59
              have H1 : (some false) = some r := by rw [if_neg (show ¬ (false = true) by decide)] at H; exact H
              exact absurd ((Option.some.inj H1).trans hrt_) (by decide)
end Go.Proofs.Ytdmkbfjipgaloaa.P
