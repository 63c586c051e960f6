-- Made by pp.py of this session out of the kit's print and of contracts proved by hand; Lean checks it.
import Derived.Test.YtdmkbfjipgaloaaPx0
import Derived.Test.YtdmkbfjipgaloaaPx7
import Derived.Test.YtdmkbfjipgaloaaPx14
namespace Go.Proofs.Ytdmkbfjipgaloaa.P
open Go.RowKit Go.Proofs.YtdmkbfjipgaloaaW.PrintWords Go.Proofs.YtdmkbfjipgaloaaW.PrintLast Go.Proofs.YtdmkbfjipgaloaaW.PrintMore
attribute [local go_sem] max2_int min2_int max_two min_two max_three min_three max_four min_four   -- for this text's walks alone
set_option linter.unusedVariables false
set_option linter.unusedSimpArgs false

/-! ### laws_FnExactLowerSlopes: function 6 -/
mutual
def laws_FnExactLowerSlopes.j0 : Nat → Int → Bool → Bool → Bool → Int → Int → List Int → Int → Int → List Int → Int → Int → List Int → Int → Int → List Int → Option (Bool)
  | 0, _, _, _, _, _, _, _, _, _, _, _, _, _, _, _, _ => none
  | k + 1, x1, x7, x10, x44, x789000, x789001, x789002, x802000, x802001, x802002, x808000, x808001, x808002, x815000, x815001, x815002 => if x44 = true then (some false) else ((laws_toField.f k x789000 x789001 x789002).bind fun bt816 => ((laws_eqField.f k x808000 x808001 x808002 bt816.1 bt816.2.1 bt816.2.2).bind fun t821 => (if t821 = true then ((laws_markField.f k x808000 x808001 x808002 1).bind fun bt822 => (if bt822.1 < 0 then (laws_FnExactLowerSlopes.j1 k x1 x7 true x789000 x789001 x789002 x802000 x802001 x802002 x815000 x815001 x815002) else ((laws_eqField.f k x815000 x815001 x815002 x802000 x802001 x802002).bind fun t824 => (if t824 = true then (laws_FnExactLowerSlopes.j1 k x1 x7 (x10 != x7) x789000 x789001 x789002 x802000 x802001 x802002 x815000 x815001 x815002) else (laws_FnExactLowerSlopes.j1 k x1 x7 true x789000 x789001 x789002 x802000 x802001 x802002 x815000 x815001 x815002))))) else (some false))))
def laws_FnExactLowerSlopes.j1 : Nat → Int → Bool → Bool → Int → Int → List Int → Int → Int → List Int → Int → Int → List Int → Option (Bool)
  | 0, _, _, _, _, _, _, _, _, _, _, _, _ => none
  | k + 1, x1, x7, x65, x789000, x789001, x789002, x802000, x802001, x802002, x815000, x815001, x815002 => if x65 = true then (some false) else ((laws_markField.f k x815000 x815001 x815002 1).bind fun bt825 => ((laws_heldField.f k x815000 x815001 bt825.2 1).bind fun t827 => (if t827 < 0 then (some false) else (if t827 = bt825.1 then ((laws_toField.f k x789000 x789001 x789002).bind fun bt828 => ((impl_LowerSlopes.f k bt828.1 bt828.2.1 bt828.2.2 x1).bind fun bt833 => ((laws_eqField.f k bt833.1 bt833.2.1 bt833.2.2.1 x802000 x802001 x802002).bind fun t840 => (if t840 = true then (laws_FnExactLowerSlopes.j2 k bt825.1 (bt833.2.2.2 != x7) x815000 x815001 bt825.2) else (laws_FnExactLowerSlopes.j2 k bt825.1 true x815000 x815001 bt825.2))))) else (some false)))))
def laws_FnExactLowerSlopes.j2 : Nat → Int → Bool → Int → Int → List Int → Option (Bool)
  | 0, _, _, _, _, _ => none
  | k + 1, x12, x92, x815000, x815001, x815002 => if x92 = true then (some false) else ((laws_heldField.f k x815000 x815001 x815002 1).bind fun t841 => (if t841 < 0 then (some false) else (if t841 = x12 then (some true) else (some false))))
end
def laws_FnExactLowerSlopes.f (k : Nat) (a0_0 : Int) (a0_1 : Int) (l0_2 : List Int) (a1 : Int) : Option (Bool) := (laws_szField.f a0_0 a0_1 l0_2 1048576).bind fun t789 => (if t789 < 0 then (some true) else ((laws_toField.f k a0_0 a0_1 l0_2).bind fun bt790 => ((spec_LowerSlopes.f k bt790.1 bt790.2.1 bt790.2.2 a1).bind fun bt795 => ((laws_toField.f k a0_0 a0_1 l0_2).bind fun bt802 => ((impl_LowerSlopes.f k bt802.1 bt802.2.1 bt802.2.2 a1).bind fun bt808 => ((laws_eqField.f k bt808.1 bt808.2.1 bt808.2.2.1 bt795.1 bt795.2.1 bt795.2.2.1).bind fun t815 => (if t815 = true then (laws_FnExactLowerSlopes.j0 k a1 bt795.2.2.2 bt808.2.2.2 (bt808.2.2.2 != bt795.2.2.2) a0_0 a0_1 l0_2 bt795.1 bt795.2.1 bt795.2.2.1 bt802.1 bt802.2.1 bt802.2.2 bt808.1 bt808.2.1 bt808.2.2.1) else (laws_FnExactLowerSlopes.j0 k a1 bt795.2.2.2 bt808.2.2.2 true a0_0 a0_1 l0_2 bt795.1 bt795.2.1 bt795.2.2.1 bt802.1 bt802.2.1 bt802.2.2 bt808.1 bt808.2.1 bt808.2.2.1))))))))
theorem laws_FnExactLowerSlopes.mono_l : ∀ k, (∀ y0 y1 y2 y3 y4 y5 y6 y7 y8 y9 y10 y11 y12 y13 y14 y15, LeO (laws_FnExactLowerSlopes.j0 k y0 y1 y2 y3 y4 y5 y6 y7 y8 y9 y10 y11 y12 y13 y14 y15) (laws_FnExactLowerSlopes.j0 (k + 1) y0 y1 y2 y3 y4 y5 y6 y7 y8 y9 y10 y11 y12 y13 y14 y15)) ∧ (∀ y0 y1 y2 y3 y4 y5 y6 y7 y8 y9 y10 y11, LeO (laws_FnExactLowerSlopes.j1 k y0 y1 y2 y3 y4 y5 y6 y7 y8 y9 y10 y11) (laws_FnExactLowerSlopes.j1 (k + 1) y0 y1 y2 y3 y4 y5 y6 y7 y8 y9 y10 y11)) ∧ (∀ y0 y1 y2 y3 y4, LeO (laws_FnExactLowerSlopes.j2 k y0 y1 y2 y3 y4) (laws_FnExactLowerSlopes.j2 (k + 1) y0 y1 y2 y3 y4))
  | 0 => ⟨fun _ _ _ _ _ _ _ _ _ _ _ _ _ _ _ _ r h => by simp [laws_FnExactLowerSlopes.j0] at h, fun _ _ _ _ _ _ _ _ _ _ _ _ r h => by simp [laws_FnExactLowerSlopes.j1] at h, fun _ _ _ _ _ r h => by simp [laws_FnExactLowerSlopes.j2] at h⟩
  | k + 1 => by
    obtain ⟨ih0, ih1, ih2⟩ := laws_FnExactLowerSlopes.mono_l k
    refine ⟨?_, ?_, ?_⟩
    · intro y0 y1 y2 y3 y4 y5 y6 y7 y8 y9 y10 y11 y12 y13 y14 y15
      unfold laws_FnExactLowerSlopes.j0
      repeat' first
      | (with_reducible exact ih0 _ _ _ _ _ _ _ _ _ _ _ _ _ _ _ _)
      | (with_reducible exact ih1 _ _ _ _ _ _ _ _ _ _ _ _)
      | (with_reducible exact ih2 _ _ _ _ _)
      | (with_reducible exact impl_LowerSlopes.mono _ _ _ _ _)
      | (with_reducible exact laws_eqField.mono _ _ _ _ _ _ _)
      | (with_reducible exact laws_heldField.mono _ _ _ _ _)
      | (with_reducible exact laws_markField.mono _ _ _ _ _)
      | (with_reducible exact laws_toField.mono _ _ _ _)
      | (with_reducible exact spec_LowerSlopes.mono _ _ _ _ _)
      | (with_reducible exact LeO.refl _)
      | (with_reducible exact LeO.none _)
      | (with_reducible refine LeO.ite ?_ ?_)
      | (with_reducible refine LeO.bind ?_ (fun _ => ?_))
      | exact ih0 _ _ _ _ _ _ _ _ _ _ _ _ _ _ _ _
      | exact ih1 _ _ _ _ _ _ _ _ _ _ _ _
      | exact ih2 _ _ _ _ _
      | exact impl_LowerSlopes.mono _ _ _ _ _
      | exact laws_eqField.mono _ _ _ _ _ _ _
      | exact laws_heldField.mono _ _ _ _ _
      | exact laws_markField.mono _ _ _ _ _
      | exact laws_toField.mono _ _ _ _
      | exact spec_LowerSlopes.mono _ _ _ _ _
      | exact LeO.none _
      | refine LeO.ite ?_ ?_
      | refine LeO.bind ?_ (fun _ => ?_)
    · intro y0 y1 y2 y3 y4 y5 y6 y7 y8 y9 y10 y11
      unfold laws_FnExactLowerSlopes.j1
      repeat' first
      | (with_reducible exact ih0 _ _ _ _ _ _ _ _ _ _ _ _ _ _ _ _)
      | (with_reducible exact ih1 _ _ _ _ _ _ _ _ _ _ _ _)
      | (with_reducible exact ih2 _ _ _ _ _)
      | (with_reducible exact impl_LowerSlopes.mono _ _ _ _ _)
      | (with_reducible exact laws_eqField.mono _ _ _ _ _ _ _)
      | (with_reducible exact laws_heldField.mono _ _ _ _ _)
      | (with_reducible exact laws_markField.mono _ _ _ _ _)
      | (with_reducible exact laws_toField.mono _ _ _ _)
      | (with_reducible exact spec_LowerSlopes.mono _ _ _ _ _)
      | (with_reducible exact LeO.refl _)
      | (with_reducible exact LeO.none _)
      | (with_reducible refine LeO.ite ?_ ?_)
      | (with_reducible refine LeO.bind ?_ (fun _ => ?_))
      | exact ih0 _ _ _ _ _ _ _ _ _ _ _ _ _ _ _ _
      | exact ih1 _ _ _ _ _ _ _ _ _ _ _ _
      | exact ih2 _ _ _ _ _
      | exact impl_LowerSlopes.mono _ _ _ _ _
      | exact laws_eqField.mono _ _ _ _ _ _ _
      | exact laws_heldField.mono _ _ _ _ _
      | exact laws_markField.mono _ _ _ _ _
      | exact laws_toField.mono _ _ _ _
      | exact spec_LowerSlopes.mono _ _ _ _ _
      | exact LeO.none _
      | refine LeO.ite ?_ ?_
      | refine LeO.bind ?_ (fun _ => ?_)
    · intro y0 y1 y2 y3 y4
      unfold laws_FnExactLowerSlopes.j2
      repeat' first
      | (with_reducible exact ih0 _ _ _ _ _ _ _ _ _ _ _ _ _ _ _ _)
      | (with_reducible exact ih1 _ _ _ _ _ _ _ _ _ _ _ _)
      | (with_reducible exact ih2 _ _ _ _ _)
      | (with_reducible exact impl_LowerSlopes.mono _ _ _ _ _)
      | (with_reducible exact laws_eqField.mono _ _ _ _ _ _ _)
      | (with_reducible exact laws_heldField.mono _ _ _ _ _)
      | (with_reducible exact laws_markField.mono _ _ _ _ _)
      | (with_reducible exact laws_toField.mono _ _ _ _)
      | (with_reducible exact spec_LowerSlopes.mono _ _ _ _ _)
      | (with_reducible exact LeO.refl _)
      | (with_reducible exact LeO.none _)
      | (with_reducible refine LeO.ite ?_ ?_)
      | (with_reducible refine LeO.bind ?_ (fun _ => ?_))
      | exact ih0 _ _ _ _ _ _ _ _ _ _ _ _ _ _ _ _
      | exact ih1 _ _ _ _ _ _ _ _ _ _ _ _
      | exact ih2 _ _ _ _ _
      | exact impl_LowerSlopes.mono _ _ _ _ _
      | exact laws_eqField.mono _ _ _ _ _ _ _
      | exact laws_heldField.mono _ _ _ _ _
      | exact laws_markField.mono _ _ _ _ _
      | exact laws_toField.mono _ _ _ _
      | exact spec_LowerSlopes.mono _ _ _ _ _
      | exact LeO.none _
      | refine LeO.ite ?_ ?_
      | refine LeO.bind ?_ (fun _ => ?_)
theorem laws_FnExactLowerSlopes.mono : ∀ a0 a1 a2 a3 k, LeO (laws_FnExactLowerSlopes.f k a0 a1 a2 a3) (laws_FnExactLowerSlopes.f (k + 1) a0 a1 a2 a3) := by
  intro a0 a1 a2 a3 k
  obtain ⟨ih0, ih1, ih2⟩ := laws_FnExactLowerSlopes.mono_l k
  unfold laws_FnExactLowerSlopes.f
  repeat' first
      | (with_reducible exact ih0 _ _ _ _ _ _ _ _ _ _ _ _ _ _ _ _)
      | (with_reducible exact ih1 _ _ _ _ _ _ _ _ _ _ _ _)
      | (with_reducible exact ih2 _ _ _ _ _)
      | (with_reducible exact impl_LowerSlopes.mono _ _ _ _ _)
      | (with_reducible exact laws_eqField.mono _ _ _ _ _ _ _)
      | (with_reducible exact laws_heldField.mono _ _ _ _ _)
      | (with_reducible exact laws_markField.mono _ _ _ _ _)
      | (with_reducible exact laws_toField.mono _ _ _ _)
      | (with_reducible exact spec_LowerSlopes.mono _ _ _ _ _)
      | (with_reducible exact LeO.refl _)
      | (with_reducible exact LeO.none _)
      | (with_reducible refine LeO.ite ?_ ?_)
      | (with_reducible refine LeO.bind ?_ (fun _ => ?_))
      | exact ih0 _ _ _ _ _ _ _ _ _ _ _ _ _ _ _ _
      | exact ih1 _ _ _ _ _ _ _ _ _ _ _ _
      | exact ih2 _ _ _ _ _
      | exact impl_LowerSlopes.mono _ _ _ _ _
      | exact laws_eqField.mono _ _ _ _ _ _ _
      | exact laws_heldField.mono _ _ _ _ _
      | exact laws_markField.mono _ _ _ _ _
      | exact laws_toField.mono _ _ _ _
      | exact spec_LowerSlopes.mono _ _ _ _ _
      | exact LeO.none _
      | refine LeO.ite ?_ ?_
      | refine LeO.bind ?_ (fun _ => ?_)
set_option maxHeartbeats 8000000 in
set_option maxRecDepth 100000 in
theorem laws_FnExactLowerSlopes.calls (k : Nat) (a0_0 : Int) (a0_1 : Int) (A0_2 : Option Addr) (c0_2 : Nat) (l0_2 : List Int) (a1 : Int) (r : Bool) (w : World) (hr0_2 : Kd.C (Kd.int .i64) w A0_2 l0_2.length l0_2) (hc0_2 : l0_2.length ≤ c0_2) (hrt_ : r = true) (h : laws_FnExactLowerSlopes.f k a0_0 a0_1 l0_2 a1 = some r) :
    Calls Try.prog 6 #[.agg #[.int .i64 a0_0, .int .i64 a0_1, .slice A0_2 l0_2.length c0_2], .int .i64 a1] w fun e w' => e = .returned (.bool r) ∧ Below w.heap.size w w' := by
  have hu36 := Try.underlying36
  have hu26 := Try.underlying26
  have HR0_2 := Aside0.mk hr0_2
  have HC0_2 := Aside0.mk hc0_2
  clear hr0_2 hc0_2
  have HB := Aside0.mk (Below.refl w.heap.size w)
  have H : ((laws_szField.f a0_0 a0_1 l0_2 1048576).bind fun t789 => (if t789 < 0 then (some true) else ((laws_toField.f k a0_0 a0_1 l0_2).bind fun bt790 => ((spec_LowerSlopes.f k bt790.1 bt790.2.1 bt790.2.2 a1).bind fun bt795 => ((laws_toField.f k a0_0 a0_1 l0_2).bind fun bt802 => ((impl_LowerSlopes.f k bt802.1 bt802.2.1 bt802.2.2 a1).bind fun bt808 => ((laws_eqField.f k bt808.1 bt808.2.1 bt808.2.2.1 bt795.1 bt795.2.1 bt795.2.2.1).bind fun t815 => (if t815 = true then (laws_FnExactLowerSlopes.j0 k a1 bt795.2.2.2 bt808.2.2.2 (bt808.2.2.2 != bt795.2.2.2) a0_0 a0_1 l0_2 bt795.1 bt795.2.1 bt795.2.2.1 bt802.1 bt802.2.1 bt802.2.2 bt808.1 bt808.2.1 bt808.2.2.1) else (laws_FnExactLowerSlopes.j0 k a1 bt795.2.2.2 bt808.2.2.2 true a0_0 a0_1 l0_2 bt795.1 bt795.2.1 bt795.2.2.1 bt802.1 bt802.2.1 bt802.2.2 bt808.1 bt808.2.1 bt808.2.2.1))))))))) = some r := h
  clear h
  replace H := Option.bind_eq_some_iff.mp H
  obtain ⟨t789, A30, H⟩ := H
  replace H : (if t789 < 0 then (some true) else ((laws_toField.f k a0_0 a0_1 l0_2).bind fun bt790 => ((spec_LowerSlopes.f k bt790.1 bt790.2.1 bt790.2.2 a1).bind fun bt795 => ((laws_toField.f k a0_0 a0_1 l0_2).bind fun bt802 => ((impl_LowerSlopes.f k bt802.1 bt802.2.1 bt802.2.2 a1).bind fun bt808 => ((laws_eqField.f k bt808.1 bt808.2.1 bt808.2.2.1 bt795.1 bt795.2.1 bt795.2.2.1).bind fun t815 => (if t815 = true then (laws_FnExactLowerSlopes.j0 k a1 bt795.2.2.2 bt808.2.2.2 (bt808.2.2.2 != bt795.2.2.2) a0_0 a0_1 l0_2 bt795.1 bt795.2.1 bt795.2.2.1 bt802.1 bt802.2.1 bt802.2.2 bt808.1 bt808.2.1 bt808.2.2.1) else (laws_FnExactLowerSlopes.j0 k a1 bt795.2.2.2 bt808.2.2.2 true a0_0 a0_1 l0_2 bt795.1 bt795.2.1 bt795.2.2.1 bt802.1 bt802.2.1 bt802.2.2 bt808.1 bt808.2.1 bt808.2.2.1)))))))) = some r := H
  have A3 := Aside0.mk A30
  clear A30
  by_cases c4 : t789 < 0
  · rw [if_pos c4] at H
    have c4b0 : decide (t789 < 0) = true := decide_eq_true c4
    clear c4
    obtain rfl := Option.some.inj H
    go_enter Try.func6, Try.ntmps6
    go_wp2_with (first | ((with_reducible refine gate_dst (N := 2) rfl ?_); refine box_event ?hg (N := 2) ?hd (cs := #[.int .i64 a0_0, .int .i64 a0_1, .slice A0_2 l0_2.length c0_2]) (t := 36) ?hr ?_; (case hd => rfl); (case hg => rfl); (case hr => first | (go_simp; done) | (go_simp; rfl)); intro gb788 hg w5 hbox hb; have n0_ := Aside0.mk (below_step (by repeat (first | (with_reducible first | exact HB.out | apply below_alloc | apply pw_below_drewN | apply below_drew1) | exact HB.out)) hb); have n1_ := Aside0.mk (hbox); have n2_ := Aside0.mk ((by rw [hg]; exact (below_size (by repeat (first | (with_reducible first | exact HB.out | apply below_alloc | apply pw_below_drewN | apply below_drew1) | exact HB.out))) : w.heap.size ≤ gb788)); have n3_ := Aside0.mk ((by rw [hg]; exact (below_size (by repeat (first | (with_reducible first | exact HB.out | apply below_alloc | apply pw_below_drewN | apply below_drew1) | exact HB.out))) : w.heap.size ≤ gb788)); clear HB; have HB := n0_; have BK788 := n1_; have GW788 := n2_; have GE788 := n3_; clear n0_ n1_ n2_ n3_; clear hb hbox hg; have hcz6_0 : w5.cell? ⟨gb788, 0, none⟩ = some (.int .i64 a0_0) := (blk_cell BK788.out 0).trans rfl; have hcz6_1 : w5.cell? ⟨gb788, 1, none⟩ = some (.int .i64 a0_1) := (blk_cell BK788.out 1).trans rfl; have hcz6_2 : w5.cell? ⟨gb788, 2, none⟩ = some (.slice A0_2 l0_2.length c0_2) := (blk_cell BK788.out 2).trans rfl; have hfz6_0 := blk_frozen BK788.out 0; have hfz6_1 := blk_frozen BK788.out 1; have hfz6_2 := blk_frozen BK788.out 2) | ((with_reducible refine gate_callee (f := 20) rfl ?_); refine goesL_ (some 18) rfl rfl Try.func20 (by kernel_rfl) rfl #[.agg #[.int .i64 a0_0, .int .i64 a0_1, .slice A0_2 l0_2.length c0_2], .int .i64 1048576] rfl (by (try simp only [List.map_toArray, List.map_cons, List.map_nil]); first | done | rfl | (simp only [List.length_drop, List.length_take]; rfl)) ?_; (with_reducible refine (laws_szField.calls a0_0 a0_1 _ _ l0_2 1048576 t789 _ ?side1 ?side2 A3.out).mono ?_); (case side1 => repeat (first | exact (Kd.C_below HR0_2.out HB.out) | (with_reducible refine Kd.C_alloc ?_ _) | (with_reducible refine Kd.C_drewN ?_ _) | (with_reducible refine Kd.C_drew ?_))); (case side2 => exact HC0_2.out); rintro e w7 ⟨rfl, hb⟩; refine ⟨_, rfl, ?_⟩; have n0_ := Aside0.mk (blk_below (g := gb788) (o := .cells #[.int .i64 a0_0, .int .i64 a0_1, .slice A0_2 l0_2.length c0_2] 36 (0, 0)) BK788.out hb); have n1_ := Aside0.mk (below_step (by repeat (first | (with_reducible first | exact HB.out | apply below_alloc | apply pw_below_drewN | apply below_drew1 | refine below_set ?_ GE788.out) | exact HB.out)) hb); clear BK788; clear HB; have BK788 := n0_; have HB := n1_; clear n0_ n1_; (try clear hb); (try clear hb2); (try clear hk); (try clear hi)))
    go_ret
    exact ⟨by first | rfl | (simp [errW_none, errW_some] <;> rfl) | (simp [*, errW_none, errW_some] <;> rfl), by repeat (first | (with_reducible first | exact HB.out | apply below_alloc | apply pw_below_drewN | apply below_drew1 | refine below_set ?_ GE788.out) | exact HB.out)⟩
  · rw [if_neg c4] at H
    have c4b0 : decide (t789 < 0) = false := decide_eq_false c4
    clear c4
    replace H := Option.bind_eq_some_iff.mp H
    obtain ⟨⟨t790, t791, t792⟩, A80, H⟩ := H
    replace H : ((spec_LowerSlopes.f k t790 t791 t792 a1).bind fun bt795 => ((laws_toField.f k a0_0 a0_1 l0_2).bind fun bt802 => ((impl_LowerSlopes.f k bt802.1 bt802.2.1 bt802.2.2 a1).bind fun bt808 => ((laws_eqField.f k bt808.1 bt808.2.1 bt808.2.2.1 bt795.1 bt795.2.1 bt795.2.2.1).bind fun t815 => (if t815 = true then (laws_FnExactLowerSlopes.j0 k a1 bt795.2.2.2 bt808.2.2.2 (bt808.2.2.2 != bt795.2.2.2) a0_0 a0_1 l0_2 bt795.1 bt795.2.1 bt795.2.2.1 bt802.1 bt802.2.1 bt802.2.2 bt808.1 bt808.2.1 bt808.2.2.1) else (laws_FnExactLowerSlopes.j0 k a1 bt795.2.2.2 bt808.2.2.2 true a0_0 a0_1 l0_2 bt795.1 bt795.2.1 bt795.2.2.1 bt802.1 bt802.2.1 bt802.2.2 bt808.1 bt808.2.1 bt808.2.2.1)))))) = some r := H
    have A8 := Aside0.mk A80
    clear A80
    replace H := Option.bind_eq_some_iff.mp H
    obtain ⟨⟨t795, t796, t797, t800⟩, A90, H⟩ := H
    replace H : ((laws_toField.f k a0_0 a0_1 l0_2).bind fun bt802 => ((impl_LowerSlopes.f k bt802.1 bt802.2.1 bt802.2.2 a1).bind fun bt808 => ((laws_eqField.f k bt808.1 bt808.2.1 bt808.2.2.1 t795 t796 t797).bind fun t815 => (if t815 = true then (laws_FnExactLowerSlopes.j0 k a1 t800 bt808.2.2.2 (bt808.2.2.2 != t800) a0_0 a0_1 l0_2 t795 t796 t797 bt802.1 bt802.2.1 bt802.2.2 bt808.1 bt808.2.1 bt808.2.2.1) else (laws_FnExactLowerSlopes.j0 k a1 t800 bt808.2.2.2 true a0_0 a0_1 l0_2 t795 t796 t797 bt802.1 bt802.2.1 bt802.2.2 bt808.1 bt808.2.1 bt808.2.2.1))))) = some r := H
    have A9 := Aside0.mk A90
    clear A90
    replace H := Option.bind_eq_some_iff.mp H
    obtain ⟨⟨t802, t803, t804⟩, A100, H⟩ := H
    replace H : ((impl_LowerSlopes.f k t802 t803 t804 a1).bind fun bt808 => ((laws_eqField.f k bt808.1 bt808.2.1 bt808.2.2.1 t795 t796 t797).bind fun t815 => (if t815 = true then (laws_FnExactLowerSlopes.j0 k a1 t800 bt808.2.2.2 (bt808.2.2.2 != t800) a0_0 a0_1 l0_2 t795 t796 t797 t802 t803 t804 bt808.1 bt808.2.1 bt808.2.2.1) else (laws_FnExactLowerSlopes.j0 k a1 t800 bt808.2.2.2 true a0_0 a0_1 l0_2 t795 t796 t797 t802 t803 t804 bt808.1 bt808.2.1 bt808.2.2.1)))) = some r := H
    have A10 := Aside0.mk A100
    clear A100
    replace H := Option.bind_eq_some_iff.mp H
    obtain ⟨⟨t808, t809, t810, t813⟩, A110, H⟩ := H
    replace H : ((laws_eqField.f k t808 t809 t810 t795 t796 t797).bind fun t815 => (if t815 = true then (laws_FnExactLowerSlopes.j0 k a1 t800 t813 (t813 != t800) a0_0 a0_1 l0_2 t795 t796 t797 t802 t803 t804 t808 t809 t810) else (laws_FnExactLowerSlopes.j0 k a1 t800 t813 true a0_0 a0_1 l0_2 t795 t796 t797 t802 t803 t804 t808 t809 t810))) = some r := H
    have A11 := Aside0.mk A110
    clear A110
    have HC12 := Aside0.mk H
    clear H
    go_enter Try.func6, Try.ntmps6
    go_upto_region 8 with (first | ((with_reducible refine gate_dst (N := 2) rfl ?_); refine box_event ?hg (N := 2) ?hd (cs := #[.int .i64 a0_0, .int .i64 a0_1, .slice A0_2 l0_2.length c0_2]) (t := 36) ?hr ?_; (case hd => rfl); (case hg => rfl); (case hr => first | (go_simp; done) | (go_simp; rfl)); intro gb788 hg w13 hbox hb; have n0_ := Aside0.mk (below_step (by repeat (first | (with_reducible first | exact HB.out | apply below_alloc | apply pw_below_drewN | apply below_drew1) | exact HB.out)) hb); have n1_ := Aside0.mk (hbox); have n2_ := Aside0.mk ((by rw [hg]; exact (below_size (by repeat (first | (with_reducible first | exact HB.out | apply below_alloc | apply pw_below_drewN | apply below_drew1) | exact HB.out))) : w.heap.size ≤ gb788)); have n3_ := Aside0.mk ((by rw [hg]; exact (below_size (by repeat (first | (with_reducible first | exact HB.out | apply below_alloc | apply pw_below_drewN | apply below_drew1) | exact HB.out))) : w.heap.size ≤ gb788)); clear HB; have HB := n0_; have BK788 := n1_; have GW788 := n2_; have GE788 := n3_; clear n0_ n1_ n2_ n3_; clear hb hbox hg; have hcz14_0 : w13.cell? ⟨gb788, 0, none⟩ = some (.int .i64 a0_0) := (blk_cell BK788.out 0).trans rfl; have hcz14_1 : w13.cell? ⟨gb788, 1, none⟩ = some (.int .i64 a0_1) := (blk_cell BK788.out 1).trans rfl; have hcz14_2 : w13.cell? ⟨gb788, 2, none⟩ = some (.slice A0_2 l0_2.length c0_2) := (blk_cell BK788.out 2).trans rfl; have hfz14_0 := blk_frozen BK788.out 0; have hfz14_1 := blk_frozen BK788.out 1; have hfz14_2 := blk_frozen BK788.out 2) | ((with_reducible refine gate_callee (f := 20) rfl ?_); refine goesL_ (some 18) rfl rfl Try.func20 (by kernel_rfl) rfl #[.agg #[.int .i64 a0_0, .int .i64 a0_1, .slice A0_2 l0_2.length c0_2], .int .i64 1048576] rfl (by (try simp only [List.map_toArray, List.map_cons, List.map_nil]); first | done | rfl | (simp only [List.length_drop, List.length_take]; rfl)) ?_; (with_reducible refine (laws_szField.calls a0_0 a0_1 _ _ l0_2 1048576 t789 _ ?side1 ?side2 A3.out).mono ?_); (case side1 => repeat (first | exact (Kd.C_below HR0_2.out HB.out) | (with_reducible refine Kd.C_alloc ?_ _) | (with_reducible refine Kd.C_drewN ?_ _) | (with_reducible refine Kd.C_drew ?_))); (case side2 => exact HC0_2.out); rintro e w15 ⟨rfl, hb⟩; refine ⟨_, rfl, ?_⟩; have n0_ := Aside0.mk (blk_below (g := gb788) (o := .cells #[.int .i64 a0_0, .int .i64 a0_1, .slice A0_2 l0_2.length c0_2] 36 (0, 0)) BK788.out hb); have n1_ := Aside0.mk (below_step (by repeat (first | (with_reducible first | exact HB.out | apply below_alloc | apply pw_below_drewN | apply below_drew1 | refine below_set ?_ GE788.out) | exact HB.out)) hb); clear BK788; clear HB; have BK788 := n0_; have HB := n1_; clear n0_ n1_; (try clear hb); (try clear hb2); (try clear hk); (try clear hi); have hcz16_0 : w15.cell? ⟨gb788, 0, none⟩ = some (.int .i64 a0_0) := (blk_cell BK788.out 0).trans rfl; have hcz16_1 : w15.cell? ⟨gb788, 1, none⟩ = some (.int .i64 a0_1) := (blk_cell BK788.out 1).trans rfl; have hcz16_2 : w15.cell? ⟨gb788, 2, none⟩ = some (.slice A0_2 l0_2.length c0_2) := (blk_cell BK788.out 2).trans rfl; have hfz16_0 := blk_frozen BK788.out 0; have hfz16_1 := blk_frozen BK788.out 1; have hfz16_2 := blk_frozen BK788.out 2) | ((with_reducible refine gate_callee (f := 22) rfl ?_); refine goesL_ (some 23) rfl rfl Try.func22 (by kernel_rfl) rfl #[.agg #[.int .i64 a0_0, .int .i64 a0_1, .slice A0_2 l0_2.length c0_2]] rfl (by (try simp only [List.map_toArray, List.map_cons, List.map_nil]); first | done | rfl | (simp only [List.length_drop, List.length_take]; rfl)) ?_; (with_reducible refine (laws_toField.calls k a0_0 a0_1 _ _ l0_2 t790 t791 t792 _ ?side1 ?side2 A8.out).mono ?_); (case side1 => repeat (first | exact (Kd.C_below HR0_2.out HB.out) | (with_reducible refine Kd.C_alloc ?_ _) | (with_reducible refine Kd.C_drewN ?_ _) | (with_reducible refine Kd.C_drew ?_))); (case side2 => exact HC0_2.out); rintro e w17 ⟨v793, rfl, ho0, hb⟩; refine ⟨_, rfl, ?_⟩; have n0_ := Aside0.mk (Kd.R_lower ho0 (below_size (by repeat (first | (with_reducible first | exact HB.out | apply below_alloc | apply pw_below_drewN | apply below_drew1 | refine below_set ?_ GE788.out) | exact HB.out)))); have n1_ := Aside0.mk (blk_below (g := gb788) (o := .cells #[.int .i64 a0_0, .int .i64 a0_1, .slice A0_2 l0_2.length c0_2] 36 (0, 0)) BK788.out hb); have n2_ := Aside0.mk (below_step (by repeat (first | (with_reducible first | exact HB.out | apply below_alloc | apply pw_below_drewN | apply below_drew1 | refine below_set ?_ GE788.out) | exact HB.out)) hb); clear BK788; clear HB; have HO794 := n0_; have BK788 := n1_; have HB := n2_; clear n0_ n1_ n2_; (try clear hb); (try clear hb2); (try clear hk); (try clear hi); (try clear ho0); obtain ⟨Ao18, co18, eo18⟩ := Kd.R_slice HO794.out; subst eo18) | ((with_reducible refine gate_callee (f := 15) rfl ?_); refine goesL_ (some 25) rfl rfl Try.func15 (by kernel_rfl) rfl #[.agg #[.int .i64 t790, .int .i64 t791, .slice Ao18 t792.length co18], .int .i64 a1] rfl (by (try simp only [List.map_toArray, List.map_cons, List.map_nil]); first | done | rfl | (simp only [List.length_drop, List.length_take]; rfl)) ?_; (with_reducible refine (spec_LowerSlopes.calls k t790 t791 _ _ t792 a1 t795 t796 t797 t800 _ ?side1 ?side2 A9.out).mono ?_); (case side1 => repeat (first | exact (Kd.R_reads' HO794.out).2.2 | (with_reducible refine Kd.C_alloc ?_ _) | (with_reducible refine Kd.C_drewN ?_ _) | (with_reducible refine Kd.C_drew ?_))); (case side2 => exact (Kd.R_reads' HO794.out).2.1); rintro e w19 ⟨v798, rfl, ho0, hb⟩; refine ⟨_, rfl, ?_⟩; have n0_ := Aside0.mk (Kd.R_elder' (by (with_reducible repeat (first | apply Kd.R_alloc | apply Kd.R_drewN | apply Kd.R_drew)); exact HO794.out) (Kd.R_base ho0) hb); have n1_ := Aside0.mk (Kd.R_lower (Kd.R_new' ho0 (Kd.R_lt (by (with_reducible repeat (first | apply Kd.R_alloc | apply Kd.R_drewN | apply Kd.R_drew)); exact HO794.out))) (below_size (by repeat (first | (with_reducible first | exact HB.out | apply below_alloc | apply pw_below_drewN | apply below_drew1 | refine below_set ?_ GE788.out) | exact HB.out)))); have n2_ := Aside0.mk (blk_below (g := gb788) (o := .cells #[.int .i64 a0_0, .int .i64 a0_1, .slice A0_2 l0_2.length c0_2] 36 (0, 0)) BK788.out hb); have n3_ := Aside0.mk (below_step (by repeat (first | (with_reducible first | exact HB.out | apply below_alloc | apply pw_below_drewN | apply below_drew1 | refine below_set ?_ GE788.out) | exact HB.out)) hb); clear HO794; clear BK788; clear HB; have HO794 := n0_; have HO799 := n1_; have BK788 := n2_; have HB := n3_; clear n0_ n1_ n2_ n3_; (try clear hb); (try clear hb2); (try clear hk); (try clear hi); (try clear ho0)) | ((with_reducible refine gate_dst (N := 6) rfl ?_); refine box_event ?hg (N := 6) ?hd (cs := #[.int .i64 0, .int .i64 0, .slice none 0 0]) (t := 26) ?hr ?_; (case hd => rfl); (case hg => rfl); (case hr => first | (go_simp; done) | (go_simp; rfl)); intro gb801 hg w20 hbox hb; have n0_ := Aside0.mk (Kd.R_below (by (with_reducible repeat (first | apply Kd.R_alloc | apply Kd.R_drewN | apply Kd.R_drew)); exact HO794.out) hb); have n1_ := Aside0.mk (Kd.R_below (by (with_reducible repeat (first | apply Kd.R_alloc | apply Kd.R_drewN | apply Kd.R_drew)); exact HO799.out) hb); have n2_ := Aside0.mk (blk_below (g := gb788) (o := .cells #[.int .i64 a0_0, .int .i64 a0_1, .slice A0_2 l0_2.length c0_2] 36 (0, 0)) BK788.out hb); have n3_ := Aside0.mk (below_step (by repeat (first | (with_reducible first | exact HB.out | apply below_alloc | apply pw_below_drewN | apply below_drew1 | refine below_set ?_ GE788.out) | exact HB.out)) hb); have n4_ := Aside0.mk (hbox); have n5_ := Aside0.mk ((by rw [hg]; exact (below_size (by repeat (first | (with_reducible first | exact HB.out | apply below_alloc | apply pw_below_drewN | apply below_drew1 | refine below_set ?_ GE788.out) | exact HB.out))) : w.heap.size ≤ gb801)); have n6_ := Aside0.mk ((by rw [hg]; exact (below_size (by repeat (first | (with_reducible first | exact HB.out | apply below_alloc | apply pw_below_drewN | apply below_drew1 | refine below_set ?_ GE788.out) | exact HB.out))) : w.heap.size ≤ gb801)); have n7_ := Aside0.mk ((by rw [hg]; exact Nat.ne_of_lt (blk_lt (g := gb788) (o := .cells #[.int .i64 a0_0, .int .i64 a0_1, .slice A0_2 l0_2.length c0_2] 36 (0, 0)) BK788.out) : gb788 ≠ gb801)); have n8_ := Aside0.mk ((by rw [hg]; exact Nat.ne_of_gt (blk_lt (g := gb788) (o := .cells #[.int .i64 a0_0, .int .i64 a0_1, .slice A0_2 l0_2.length c0_2] 36 (0, 0)) BK788.out) : gb801 ≠ gb788)); clear HO794; clear HO799; clear BK788; clear HB; have HO794 := n0_; have HO799 := n1_; have BK788 := n2_; have HB := n3_; have BK801 := n4_; have GW801 := n5_; have GE801 := n6_; have NB788_801 := n7_; have NB801_788 := n8_; clear n0_ n1_ n2_ n3_ n4_ n5_ n6_ n7_ n8_; clear hb hbox hg; have hnb21 := NB801_788.out; have hnc21 := NB788_801.out; have hcz22_0 : w20.cell? ⟨gb801, 0, none⟩ = some (.int .i64 0) := (blk_cell BK801.out 0).trans rfl; have hcz22_1 : w20.cell? ⟨gb801, 1, none⟩ = some (.int .i64 0) := (blk_cell BK801.out 1).trans rfl; have hcz22_2 : w20.cell? ⟨gb801, 2, none⟩ = some (.slice none 0 0) := (blk_cell BK801.out 2).trans rfl; have hfz22_0 := blk_frozen BK801.out 0; have hfz22_1 := blk_frozen BK801.out 1; have hfz22_2 := blk_frozen BK801.out 2; obtain ⟨Ao23, co23, eo23⟩ := Kd.R_slice HO799.out; subst eo23; have hcz24_0 : w20.cell? ⟨gb788, 0, none⟩ = some (.int .i64 a0_0) := (blk_cell BK788.out 0).trans rfl; have hcz24_1 : w20.cell? ⟨gb788, 1, none⟩ = some (.int .i64 a0_1) := (blk_cell BK788.out 1).trans rfl; have hcz24_2 : w20.cell? ⟨gb788, 2, none⟩ = some (.slice A0_2 l0_2.length c0_2) := (blk_cell BK788.out 2).trans rfl; have hfz24_0 := blk_frozen BK788.out 0; have hfz24_1 := blk_frozen BK788.out 1; have hfz24_2 := blk_frozen BK788.out 2) | ((with_reducible refine gate_callee (f := 22) rfl ?_); refine goesL_ (some 29) rfl rfl Try.func22 (by kernel_rfl) rfl #[.agg #[.int .i64 a0_0, .int .i64 a0_1, .slice A0_2 l0_2.length c0_2]] rfl (by (try simp only [List.map_toArray, List.map_cons, List.map_nil]); first | done | rfl | (simp only [List.length_drop, List.length_take]; rfl)) ?_; (with_reducible refine (laws_toField.calls k a0_0 a0_1 _ _ l0_2 t802 t803 t804 _ ?side1 ?side2 A10.out).mono ?_); (case side1 => exact Kd.C_below HR0_2.out (by repeat (first | (with_reducible first | exact HB.out | apply below_alloc | apply pw_below_drewN | apply below_drew1 | refine below_set ?_ GE788.out | refine below_set ?_ GE801.out) | exact HB.out))); (case side2 => exact HC0_2.out); rintro e w25 ⟨v805, rfl, ho0, hb⟩; refine ⟨_, rfl, ?_⟩; have n0_ := Aside0.mk (Kd.R_elder' (by (with_reducible repeat (first | apply Kd.R_alloc | apply Kd.R_drewN | apply Kd.R_drew)); exact (Kd.R_mono (Kd.R_far (p := ⟨gb801, 2, none⟩) (Kd.R_far (p := ⟨gb801, 1, none⟩) (Kd.R_far (p := ⟨gb801, 0, none⟩) (Kd.R_types HO794.out BK801.out (by decide)) (fun _ hk => hk.2) (.int .i64 t795)) (fun _ hk => hk.2) (.int .i64 t796)) (fun _ hk => hk.2) (.slice Ao23 t797.length co23)) (fun _ h_ => h_.1))) (Kd.R_base ho0) hb); have n1_ := Aside0.mk (Kd.R_elder' (by (with_reducible repeat (first | apply Kd.R_alloc | apply Kd.R_drewN | apply Kd.R_drew)); exact (Kd.R_mono (Kd.R_far (p := ⟨gb801, 2, none⟩) (Kd.R_far (p := ⟨gb801, 1, none⟩) (Kd.R_far (p := ⟨gb801, 0, none⟩) (Kd.R_types HO799.out BK801.out (by decide)) (fun _ hk => hk.2) (.int .i64 t795)) (fun _ hk => hk.2) (.int .i64 t796)) (fun _ hk => hk.2) (.slice Ao23 t797.length co23)) (fun _ h_ => h_.1))) (Kd.R_base ho0) hb); have n2_ := Aside0.mk (Kd.R_lower (Kd.R_new' (Kd.R_new' ho0 (Kd.R_lt (by (with_reducible repeat (first | apply Kd.R_alloc | apply Kd.R_drewN | apply Kd.R_drew)); exact (Kd.R_mono (Kd.R_far (p := ⟨gb801, 2, none⟩) (Kd.R_far (p := ⟨gb801, 1, none⟩) (Kd.R_far (p := ⟨gb801, 0, none⟩) (Kd.R_types HO794.out BK801.out (by decide)) (fun _ hk => hk.2) (.int .i64 t795)) (fun _ hk => hk.2) (.int .i64 t796)) (fun _ hk => hk.2) (.slice Ao23 t797.length co23)) (fun _ h_ => h_.1))))) (Kd.R_lt (by (with_reducible repeat (first | apply Kd.R_alloc | apply Kd.R_drewN | apply Kd.R_drew)); exact (Kd.R_mono (Kd.R_far (p := ⟨gb801, 2, none⟩) (Kd.R_far (p := ⟨gb801, 1, none⟩) (Kd.R_far (p := ⟨gb801, 0, none⟩) (Kd.R_types HO799.out BK801.out (by decide)) (fun _ hk => hk.2) (.int .i64 t795)) (fun _ hk => hk.2) (.int .i64 t796)) (fun _ hk => hk.2) (.slice Ao23 t797.length co23)) (fun _ h_ => h_.1))))) (below_size (by repeat (first | (with_reducible first | exact HB.out | apply below_alloc | apply pw_below_drewN | apply below_drew1 | refine below_set ?_ GE788.out | refine below_set ?_ GE801.out) | exact HB.out)))); have n3_ := Aside0.mk (blk_below (g := gb788) (o := .cells #[.int .i64 a0_0, .int .i64 a0_1, .slice A0_2 l0_2.length c0_2] 36 (0, 0)) (by (with_reducible repeat (first | refine blk_drewN ?_ _ | refine blk_drew ?_ | refine blk_alloc ?_ _)); refine blk_far ?_ NB788_801.out _; (with_reducible repeat (first | refine blk_drewN ?_ _ | refine blk_drew ?_ | refine blk_alloc ?_ _)); refine blk_far ?_ NB788_801.out _; (with_reducible repeat (first | refine blk_drewN ?_ _ | refine blk_drew ?_ | refine blk_alloc ?_ _)); refine blk_far ?_ NB788_801.out _; (with_reducible repeat (first | refine blk_drewN ?_ _ | refine blk_drew ?_ | refine blk_alloc ?_ _)); exact BK788.out) hb); have n4_ := Aside0.mk (blk_below (g := gb801) (o := .cells #[.int .i64 t795, .int .i64 t796, .slice Ao23 t797.length co23] 26 (0, 0)) (by (with_reducible repeat (first | refine blk_drewN ?_ _ | refine blk_drew ?_ | refine blk_alloc ?_ _)); refine blk_put (cs := #[.int .i64 t795, .int .i64 t796, .slice none 0 0]) ?_ 2 _ rfl; (with_reducible repeat (first | refine blk_drewN ?_ _ | refine blk_drew ?_ | refine blk_alloc ?_ _)); refine blk_put (cs := #[.int .i64 t795, .int .i64 0, .slice none 0 0]) ?_ 1 _ rfl; (with_reducible repeat (first | refine blk_drewN ?_ _ | refine blk_drew ?_ | refine blk_alloc ?_ _)); refine blk_put (cs := #[.int .i64 0, .int .i64 0, .slice none 0 0]) ?_ 0 _ rfl; (with_reducible repeat (first | refine blk_drewN ?_ _ | refine blk_drew ?_ | refine blk_alloc ?_ _)); exact BK801.out) hb); have n5_ := Aside0.mk (below_step (by repeat (first | (with_reducible first | exact HB.out | apply below_alloc | apply pw_below_drewN | apply below_drew1 | refine below_set ?_ GE788.out | refine below_set ?_ GE801.out) | exact HB.out)) hb); clear HO794; clear HO799; clear BK788; clear BK801; clear HB; have HO794 := n0_; have HO799 := n1_; have HO806 := n2_; have BK788 := n3_; have BK801 := n4_; have HB := n5_; clear n0_ n1_ n2_ n3_ n4_ n5_; (try clear hb); (try clear hb2); (try clear hk); (try clear hi); (try clear ho0)) | ((with_reducible refine gate_dst (N := 8) rfl ?_); refine box_event ?hg (N := 8) ?hd (cs := #[.int .i64 0, .int .i64 0, .slice none 0 0]) (t := 26) ?hr ?_; (case hd => rfl); (case hg => rfl); (case hr => first | (go_simp; done) | (go_simp; rfl)); intro gb807 hg w26 hbox hb; have n0_ := Aside0.mk (Kd.R_below (by (with_reducible repeat (first | apply Kd.R_alloc | apply Kd.R_drewN | apply Kd.R_drew)); exact HO794.out) hb); have n1_ := Aside0.mk (Kd.R_below (by (with_reducible repeat (first | apply Kd.R_alloc | apply Kd.R_drewN | apply Kd.R_drew)); exact HO799.out) hb); have n2_ := Aside0.mk (Kd.R_below (by (with_reducible repeat (first | apply Kd.R_alloc | apply Kd.R_drewN | apply Kd.R_drew)); exact HO806.out) hb); have n3_ := Aside0.mk (blk_below (g := gb788) (o := .cells #[.int .i64 a0_0, .int .i64 a0_1, .slice A0_2 l0_2.length c0_2] 36 (0, 0)) BK788.out hb); have n4_ := Aside0.mk (blk_below (g := gb801) (o := .cells #[.int .i64 t795, .int .i64 t796, .slice Ao23 t797.length co23] 26 (0, 0)) BK801.out hb); have n5_ := Aside0.mk (below_step (by repeat (first | (with_reducible first | exact HB.out | apply below_alloc | apply pw_below_drewN | apply below_drew1 | refine below_set ?_ GE788.out | refine below_set ?_ GE801.out) | exact HB.out)) hb); have n6_ := Aside0.mk (hbox); have n7_ := Aside0.mk ((by rw [hg]; exact (below_size (by repeat (first | (with_reducible first | exact HB.out | apply below_alloc | apply pw_below_drewN | apply below_drew1 | refine below_set ?_ GE788.out | refine below_set ?_ GE801.out) | exact HB.out))) : w.heap.size ≤ gb807)); have n8_ := Aside0.mk ((by rw [hg]; exact (below_size (by repeat (first | (with_reducible first | exact HB.out | apply below_alloc | apply pw_below_drewN | apply below_drew1 | refine below_set ?_ GE788.out | refine below_set ?_ GE801.out) | exact HB.out))) : w.heap.size ≤ gb807)); have n9_ := Aside0.mk ((by rw [hg]; exact Nat.ne_of_lt (blk_lt (g := gb788) (o := .cells #[.int .i64 a0_0, .int .i64 a0_1, .slice A0_2 l0_2.length c0_2] 36 (0, 0)) BK788.out) : gb788 ≠ gb807)); have n10_ := Aside0.mk ((by rw [hg]; exact Nat.ne_of_gt (blk_lt (g := gb788) (o := .cells #[.int .i64 a0_0, .int .i64 a0_1, .slice A0_2 l0_2.length c0_2] 36 (0, 0)) BK788.out) : gb807 ≠ gb788)); have n11_ := Aside0.mk ((by rw [hg]; exact Nat.ne_of_lt (blk_lt (g := gb801) (o := .cells #[.int .i64 t795, .int .i64 t796, .slice Ao23 t797.length co23] 26 (0, 0)) BK801.out) : gb801 ≠ gb807)); have n12_ := Aside0.mk ((by rw [hg]; exact Nat.ne_of_gt (blk_lt (g := gb801) (o := .cells #[.int .i64 t795, .int .i64 t796, .slice Ao23 t797.length co23] 26 (0, 0)) BK801.out) : gb807 ≠ gb801)); clear HO794; clear HO799; clear HO806; clear BK788; clear BK801; clear HB; have HO794 := n0_; have HO799 := n1_; have HO806 := n2_; have BK788 := n3_; have BK801 := n4_; have HB := n5_; have BK807 := n6_; have GW807 := n7_; have GE807 := n8_; have NB788_807 := n9_; have NB807_788 := n10_; have NB801_807 := n11_; have NB807_801 := n12_; clear n0_ n1_ n2_ n3_ n4_ n5_ n6_ n7_ n8_ n9_ n10_ n11_ n12_; clear hb hbox hg; have hnb27 := NB807_788.out; have hnc27 := NB788_807.out; have hnb28 := NB807_801.out; have hnc28 := NB801_807.out; have hcz29_0 : w26.cell? ⟨gb807, 0, none⟩ = some (.int .i64 0) := (blk_cell BK807.out 0).trans rfl; have hcz29_1 : w26.cell? ⟨gb807, 1, none⟩ = some (.int .i64 0) := (blk_cell BK807.out 1).trans rfl; have hcz29_2 : w26.cell? ⟨gb807, 2, none⟩ = some (.slice none 0 0) := (blk_cell BK807.out 2).trans rfl; have hfz29_0 := blk_frozen BK807.out 0; have hfz29_1 := blk_frozen BK807.out 1; have hfz29_2 := blk_frozen BK807.out 2; obtain ⟨Ao30, co30, eo30⟩ := Kd.R_slice HO806.out; subst eo30) | ((with_reducible refine gate_callee (f := 13) rfl ?_); refine goesL_ (some 33) rfl rfl Try.func13 (by kernel_rfl) rfl #[.agg #[.int .i64 t802, .int .i64 t803, .slice Ao30 t804.length co30], .int .i64 a1] rfl (by (try simp only [List.map_toArray, List.map_cons, List.map_nil]); first | done | rfl | (simp only [List.length_drop, List.length_take]; rfl)) ?_; (with_reducible refine (impl_LowerSlopes.calls k t802 t803 _ _ t804 a1 t808 t809 t810 t813 _ ?side1 ?side2 A11.out).mono ?_); (case side1 => refine (Kd.R_reads' (e := 3) (base := w.heap.size) (ok := fun k_ => ((True ∧ some k_ ≠ (.slice Ao18 t792.length co18 : Value).ownBlock) ∧ some k_ ≠ (.slice Ao23 t797.length co23 : Value).ownBlock)) (n := t804.length) (c := co30) ?_).2.2; exact (by (with_reducible repeat (first | apply Kd.R_alloc | apply Kd.R_drewN | apply Kd.R_drew)); exact (Kd.R_mono (Kd.R_far (p := ⟨gb807, 2, none⟩) (Kd.R_far (p := ⟨gb807, 1, none⟩) (Kd.R_far (p := ⟨gb807, 0, none⟩) (Kd.R_types HO806.out BK807.out (by decide)) (fun _ hk => hk.2) (.int .i64 t802)) (fun _ hk => hk.2) (.int .i64 t803)) (fun _ hk => hk.2) (.slice Ao30 t804.length co30)) (fun _ h_ => h_.1)))); (case side2 => exact (Kd.R_reads' HO806.out).2.1); rintro e w31 ⟨v811, rfl, ho0, hb⟩; refine ⟨_, rfl, ?_⟩; have n0_ := Aside0.mk (Kd.R_elder' (by (with_reducible repeat (first | apply Kd.R_alloc | apply Kd.R_drewN | apply Kd.R_drew)); exact (Kd.R_mono (Kd.R_far (p := ⟨gb807, 2, none⟩) (Kd.R_far (p := ⟨gb807, 1, none⟩) (Kd.R_far (p := ⟨gb807, 0, none⟩) (Kd.R_types HO794.out BK807.out (by decide)) (fun _ hk => hk.2) (.int .i64 t802)) (fun _ hk => hk.2) (.int .i64 t803)) (fun _ hk => hk.2) (.slice Ao30 t804.length co30)) (fun _ h_ => h_.1))) (Kd.R_base ho0) hb); have n1_ := Aside0.mk (Kd.R_elder' (by (with_reducible repeat (first | apply Kd.R_alloc | apply Kd.R_drewN | apply Kd.R_drew)); exact (Kd.R_mono (Kd.R_far (p := ⟨gb807, 2, none⟩) (Kd.R_far (p := ⟨gb807, 1, none⟩) (Kd.R_far (p := ⟨gb807, 0, none⟩) (Kd.R_types HO799.out BK807.out (by decide)) (fun _ hk => hk.2) (.int .i64 t802)) (fun _ hk => hk.2) (.int .i64 t803)) (fun _ hk => hk.2) (.slice Ao30 t804.length co30)) (fun _ h_ => h_.1))) (Kd.R_base ho0) hb); have n2_ := Aside0.mk (Kd.R_elder' (by (with_reducible repeat (first | apply Kd.R_alloc | apply Kd.R_drewN | apply Kd.R_drew)); exact (Kd.R_mono (Kd.R_far (p := ⟨gb807, 2, none⟩) (Kd.R_far (p := ⟨gb807, 1, none⟩) (Kd.R_far (p := ⟨gb807, 0, none⟩) (Kd.R_types HO806.out BK807.out (by decide)) (fun _ hk => hk.2) (.int .i64 t802)) (fun _ hk => hk.2) (.int .i64 t803)) (fun _ hk => hk.2) (.slice Ao30 t804.length co30)) (fun _ h_ => h_.1))) (Kd.R_base ho0) hb); have n3_ := Aside0.mk (Kd.R_lower (Kd.R_new' (Kd.R_new' (Kd.R_new' ho0 (Kd.R_lt (by (with_reducible repeat (first | apply Kd.R_alloc | apply Kd.R_drewN | apply Kd.R_drew)); exact (Kd.R_mono (Kd.R_far (p := ⟨gb807, 2, none⟩) (Kd.R_far (p := ⟨gb807, 1, none⟩) (Kd.R_far (p := ⟨gb807, 0, none⟩) (Kd.R_types HO794.out BK807.out (by decide)) (fun _ hk => hk.2) (.int .i64 t802)) (fun _ hk => hk.2) (.int .i64 t803)) (fun _ hk => hk.2) (.slice Ao30 t804.length co30)) (fun _ h_ => h_.1))))) (Kd.R_lt (by (with_reducible repeat (first | apply Kd.R_alloc | apply Kd.R_drewN | apply Kd.R_drew)); exact (Kd.R_mono (Kd.R_far (p := ⟨gb807, 2, none⟩) (Kd.R_far (p := ⟨gb807, 1, none⟩) (Kd.R_far (p := ⟨gb807, 0, none⟩) (Kd.R_types HO799.out BK807.out (by decide)) (fun _ hk => hk.2) (.int .i64 t802)) (fun _ hk => hk.2) (.int .i64 t803)) (fun _ hk => hk.2) (.slice Ao30 t804.length co30)) (fun _ h_ => h_.1))))) (Kd.R_lt (by (with_reducible repeat (first | apply Kd.R_alloc | apply Kd.R_drewN | apply Kd.R_drew)); exact (Kd.R_mono (Kd.R_far (p := ⟨gb807, 2, none⟩) (Kd.R_far (p := ⟨gb807, 1, none⟩) (Kd.R_far (p := ⟨gb807, 0, none⟩) (Kd.R_types HO806.out BK807.out (by decide)) (fun _ hk => hk.2) (.int .i64 t802)) (fun _ hk => hk.2) (.int .i64 t803)) (fun _ hk => hk.2) (.slice Ao30 t804.length co30)) (fun _ h_ => h_.1))))) (below_size (by repeat (first | (with_reducible first | exact HB.out | apply below_alloc | apply pw_below_drewN | apply below_drew1 | refine below_set ?_ GE788.out | refine below_set ?_ GE801.out | refine below_set ?_ GE807.out) | exact HB.out)))); have n4_ := Aside0.mk (blk_below (g := gb788) (o := .cells #[.int .i64 a0_0, .int .i64 a0_1, .slice A0_2 l0_2.length c0_2] 36 (0, 0)) (by (with_reducible repeat (first | refine blk_drewN ?_ _ | refine blk_drew ?_ | refine blk_alloc ?_ _)); refine blk_far ?_ NB788_807.out _; (with_reducible repeat (first | refine blk_drewN ?_ _ | refine blk_drew ?_ | refine blk_alloc ?_ _)); refine blk_far ?_ NB788_807.out _; (with_reducible repeat (first | refine blk_drewN ?_ _ | refine blk_drew ?_ | refine blk_alloc ?_ _)); refine blk_far ?_ NB788_807.out _; (with_reducible repeat (first | refine blk_drewN ?_ _ | refine blk_drew ?_ | refine blk_alloc ?_ _)); exact BK788.out) hb); have n5_ := Aside0.mk (blk_below (g := gb801) (o := .cells #[.int .i64 t795, .int .i64 t796, .slice Ao23 t797.length co23] 26 (0, 0)) (by (with_reducible repeat (first | refine blk_drewN ?_ _ | refine blk_drew ?_ | refine blk_alloc ?_ _)); refine blk_far ?_ NB801_807.out _; (with_reducible repeat (first | refine blk_drewN ?_ _ | refine blk_drew ?_ | refine blk_alloc ?_ _)); refine blk_far ?_ NB801_807.out _; (with_reducible repeat (first | refine blk_drewN ?_ _ | refine blk_drew ?_ | refine blk_alloc ?_ _)); refine blk_far ?_ NB801_807.out _; (with_reducible repeat (first | refine blk_drewN ?_ _ | refine blk_drew ?_ | refine blk_alloc ?_ _)); exact BK801.out) hb); have n6_ := Aside0.mk (blk_below (g := gb807) (o := .cells #[.int .i64 t802, .int .i64 t803, .slice Ao30 t804.length co30] 26 (0, 0)) (by (with_reducible repeat (first | refine blk_drewN ?_ _ | refine blk_drew ?_ | refine blk_alloc ?_ _)); refine blk_put (cs := #[.int .i64 t802, .int .i64 t803, .slice none 0 0]) ?_ 2 _ rfl; (with_reducible repeat (first | refine blk_drewN ?_ _ | refine blk_drew ?_ | refine blk_alloc ?_ _)); refine blk_put (cs := #[.int .i64 t802, .int .i64 0, .slice none 0 0]) ?_ 1 _ rfl; (with_reducible repeat (first | refine blk_drewN ?_ _ | refine blk_drew ?_ | refine blk_alloc ?_ _)); refine blk_put (cs := #[.int .i64 0, .int .i64 0, .slice none 0 0]) ?_ 0 _ rfl; (with_reducible repeat (first | refine blk_drewN ?_ _ | refine blk_drew ?_ | refine blk_alloc ?_ _)); exact BK807.out) hb); have n7_ := Aside0.mk (below_step (by repeat (first | (with_reducible first | exact HB.out | apply below_alloc | apply pw_below_drewN | apply below_drew1 | refine below_set ?_ GE788.out | refine below_set ?_ GE801.out | refine below_set ?_ GE807.out) | exact HB.out)) hb); clear HO794; clear HO799; clear HO806; clear BK788; clear BK801; clear BK807; clear HB; have HO794 := n0_; have HO799 := n1_; have HO806 := n2_; have HO812 := n3_; have BK788 := n4_; have BK801 := n5_; have BK807 := n6_; have HB := n7_; clear n0_ n1_ n2_ n3_ n4_ n5_ n6_ n7_; (try clear hb); (try clear hb2); (try clear hk); (try clear hi); (try clear ho0)) | ((with_reducible refine gate_dst (N := 9) rfl ?_); refine box_event ?hg (N := 9) ?hd (cs := #[.int .i64 0, .int .i64 0, .slice none 0 0]) (t := 26) ?hr ?_; (case hd => rfl); (case hg => rfl); (case hr => first | (go_simp; done) | (go_simp; rfl)); intro gb814 hg w32 hbox hb; have n0_ := Aside0.mk (Kd.R_below (by (with_reducible repeat (first | apply Kd.R_alloc | apply Kd.R_drewN | apply Kd.R_drew)); exact HO794.out) hb); have n1_ := Aside0.mk (Kd.R_below (by (with_reducible repeat (first | apply Kd.R_alloc | apply Kd.R_drewN | apply Kd.R_drew)); exact HO799.out) hb); have n2_ := Aside0.mk (Kd.R_below (by (with_reducible repeat (first | apply Kd.R_alloc | apply Kd.R_drewN | apply Kd.R_drew)); exact HO806.out) hb); have n3_ := Aside0.mk (Kd.R_below (by (with_reducible repeat (first | apply Kd.R_alloc | apply Kd.R_drewN | apply Kd.R_drew)); exact HO812.out) hb); have n4_ := Aside0.mk (blk_below (g := gb788) (o := .cells #[.int .i64 a0_0, .int .i64 a0_1, .slice A0_2 l0_2.length c0_2] 36 (0, 0)) BK788.out hb); have n5_ := Aside0.mk (blk_below (g := gb801) (o := .cells #[.int .i64 t795, .int .i64 t796, .slice Ao23 t797.length co23] 26 (0, 0)) BK801.out hb); have n6_ := Aside0.mk (blk_below (g := gb807) (o := .cells #[.int .i64 t802, .int .i64 t803, .slice Ao30 t804.length co30] 26 (0, 0)) BK807.out hb); have n7_ := Aside0.mk (below_step (by repeat (first | (with_reducible first | exact HB.out | apply below_alloc | apply pw_below_drewN | apply below_drew1 | refine below_set ?_ GE788.out | refine below_set ?_ GE801.out | refine below_set ?_ GE807.out) | exact HB.out)) hb); have n8_ := Aside0.mk (hbox); have n9_ := Aside0.mk ((by rw [hg]; exact (below_size (by repeat (first | (with_reducible first | exact HB.out | apply below_alloc | apply pw_below_drewN | apply below_drew1 | refine below_set ?_ GE788.out | refine below_set ?_ GE801.out | refine below_set ?_ GE807.out) | exact HB.out))) : w.heap.size ≤ gb814)); have n10_ := Aside0.mk ((by rw [hg]; exact (below_size (by repeat (first | (with_reducible first | exact HB.out | apply below_alloc | apply pw_below_drewN | apply below_drew1 | refine below_set ?_ GE788.out | refine below_set ?_ GE801.out | refine below_set ?_ GE807.out) | exact HB.out))) : w.heap.size ≤ gb814)); have n11_ := Aside0.mk ((by rw [hg]; exact Nat.ne_of_lt (blk_lt (g := gb788) (o := .cells #[.int .i64 a0_0, .int .i64 a0_1, .slice A0_2 l0_2.length c0_2] 36 (0, 0)) BK788.out) : gb788 ≠ gb814)); have n12_ := Aside0.mk ((by rw [hg]; exact Nat.ne_of_gt (blk_lt (g := gb788) (o := .cells #[.int .i64 a0_0, .int .i64 a0_1, .slice A0_2 l0_2.length c0_2] 36 (0, 0)) BK788.out) : gb814 ≠ gb788)); have n13_ := Aside0.mk ((by rw [hg]; exact Nat.ne_of_lt (blk_lt (g := gb801) (o := .cells #[.int .i64 t795, .int .i64 t796, .slice Ao23 t797.length co23] 26 (0, 0)) BK801.out) : gb801 ≠ gb814)); have n14_ := Aside0.mk ((by rw [hg]; exact Nat.ne_of_gt (blk_lt (g := gb801) (o := .cells #[.int .i64 t795, .int .i64 t796, .slice Ao23 t797.length co23] 26 (0, 0)) BK801.out) : gb814 ≠ gb801)); have n15_ := Aside0.mk ((by rw [hg]; exact Nat.ne_of_lt (blk_lt (g := gb807) (o := .cells #[.int .i64 t802, .int .i64 t803, .slice Ao30 t804.length co30] 26 (0, 0)) BK807.out) : gb807 ≠ gb814)); have n16_ := Aside0.mk ((by rw [hg]; exact Nat.ne_of_gt (blk_lt (g := gb807) (o := .cells #[.int .i64 t802, .int .i64 t803, .slice Ao30 t804.length co30] 26 (0, 0)) BK807.out) : gb814 ≠ gb807)); clear HO794; clear HO799; clear HO806; clear HO812; clear BK788; clear BK801; clear BK807; clear HB; have HO794 := n0_; have HO799 := n1_; have HO806 := n2_; have HO812 := n3_; have BK788 := n4_; have BK801 := n5_; have BK807 := n6_; have HB := n7_; have BK814 := n8_; have GW814 := n9_; have GE814 := n10_; have NB788_814 := n11_; have NB814_788 := n12_; have NB801_814 := n13_; have NB814_801 := n14_; have NB807_814 := n15_; have NB814_807 := n16_; clear n0_ n1_ n2_ n3_ n4_ n5_ n6_ n7_ n8_ n9_ n10_ n11_ n12_ n13_ n14_ n15_ n16_; clear hb hbox hg; have hnb33 := NB814_788.out; have hnc33 := NB788_814.out; have hnb34 := NB814_801.out; have hnc34 := NB801_814.out; have hnb35 := NB814_807.out; have hnc35 := NB807_814.out; have hcz36_0 : w32.cell? ⟨gb814, 0, none⟩ = some (.int .i64 0) := (blk_cell BK814.out 0).trans rfl; have hcz36_1 : w32.cell? ⟨gb814, 1, none⟩ = some (.int .i64 0) := (blk_cell BK814.out 1).trans rfl; have hcz36_2 : w32.cell? ⟨gb814, 2, none⟩ = some (.slice none 0 0) := (blk_cell BK814.out 2).trans rfl; have hfz36_0 := blk_frozen BK814.out 0; have hfz36_1 := blk_frozen BK814.out 1; have hfz36_2 := blk_frozen BK814.out 2; obtain ⟨Ao37, co37, eo37⟩ := Kd.R_slice HO812.out; subst eo37))
    (try simp only [Act.put, List.setIfInBounds_toArray, List.set_cons_zero, List.set_cons_succ])
    go_cut [44] (fun v44 wc => ∃ (kq : Nat) (x44_11 : Bool), v44 = .bool x44_11 ∧ Aside0 (laws_FnExactLowerSlopes.j0 kq a1 t800 t813 x44_11 a0_0 a0_1 l0_2 t795 t796 t797 t802 t803 t804 t808 t809 t810 = some r) ∧ Aside0 (kq ≤ k) ∧ Aside0 (Kd.R (Kd.int .i64) 3 wc w.heap.size (fun k_ => some k_ ≠ ((.slice Ao30 t804.length co30) : Value).ownBlock ∧ some k_ ≠ ((.slice Ao37 t810.length co37) : Value).ownBlock) (.slice Ao23 t797.length co23) t797) ∧ Aside0 (Kd.R (Kd.int .i64) 3 wc w.heap.size (fun k_ => some k_ ≠ ((.slice Ao23 t797.length co23) : Value).ownBlock ∧ some k_ ≠ ((.slice Ao37 t810.length co37) : Value).ownBlock) (.slice Ao30 t804.length co30) t804) ∧ Aside0 (Kd.R (Kd.int .i64) 3 wc w.heap.size (fun k_ => some k_ ≠ ((.slice Ao23 t797.length co23) : Value).ownBlock ∧ some k_ ≠ ((.slice Ao30 t804.length co30) : Value).ownBlock) (.slice Ao37 t810.length co37) t810) ∧ Aside0 (wc.heap[gb788]? = some (.cells #[.int .i64 a0_0, .int .i64 a0_1, (.slice A0_2 l0_2.length c0_2)] 36 (0, 0))) ∧ Aside0 (wc.heap[gb801]? = some (.cells #[.int .i64 t795, .int .i64 t796, (.slice Ao23 t797.length co23)] 26 (0, 0))) ∧ Aside0 (wc.heap[gb807]? = some (.cells #[.int .i64 t802, .int .i64 t803, (.slice Ao30 t804.length co30)] 26 (0, 0))) ∧ Aside0 (wc.heap[gb814]? = some (.cells #[.int .i64 t808, .int .i64 t809, (.slice Ao37 t810.length co37)] 26 (0, 0))) ∧ Aside0 (Below w.heap.size w wc))
    case first =>
      as_aux_lemma =>
        have H := HC12.out
        clear HC12
        replace H := Option.bind_eq_some_iff.mp H
        obtain ⟨t815, A380, H⟩ := H
        replace H : (if t815 = true then (laws_FnExactLowerSlopes.j0 k a1 t800 t813 (t813 != t800) a0_0 a0_1 l0_2 t795 t796 t797 t802 t803 t804 t808 t809 t810) else (laws_FnExactLowerSlopes.j0 k a1 t800 t813 true a0_0 a0_1 l0_2 t795 t796 t797 t802 t803 t804 t808 t809 t810)) = some r := H
        have A38 := Aside0.mk A380
        clear A380
        by_cases c39 : t815 = true
        · subst c39
          have H1 : (laws_FnExactLowerSlopes.j0 k a1 t800 t813 (t813 != t800) a0_0 a0_1 l0_2 t795 t796 t797 t802 t803 t804 t808 t809 t810) = some r := by rw [if_pos rfl] at H; exact H
          clear H
          have H := H1
          clear H1
          have H' := Aside0.mk H
          clear H
          have hnb40 := NB814_788.out
          have hnc40 := NB788_814.out
          have hnb41 := NB814_801.out
          have hnc41 := NB801_814.out
          have hnb42 := NB814_807.out
          have hnc42 := NB807_814.out
          have hcz43_0 : w32.cell? ⟨gb814, 0, none⟩ = some (.int .i64 0) := (blk_cell BK814.out 0).trans rfl
          have hcz43_1 : w32.cell? ⟨gb814, 1, none⟩ = some (.int .i64 0) := (blk_cell BK814.out 1).trans rfl
          have hcz43_2 : w32.cell? ⟨gb814, 2, none⟩ = some (.slice none 0 0) := (blk_cell BK814.out 2).trans rfl
          have hfz43_0 := blk_frozen BK814.out 0
          have hfz43_1 := blk_frozen BK814.out 1
          have hfz43_2 := blk_frozen BK814.out 2
          have hnb44 := NB801_788.out
          have hnc44 := NB788_801.out
          have hnb45 := NB801_807.out
          have hnc45 := NB807_801.out
          have hcz46_0 : w32.cell? ⟨gb801, 0, none⟩ = some (.int .i64 t795) := (blk_cell BK801.out 0).trans rfl
          have hcz46_1 : w32.cell? ⟨gb801, 1, none⟩ = some (.int .i64 t796) := (blk_cell BK801.out 1).trans rfl
          have hcz46_2 : w32.cell? ⟨gb801, 2, none⟩ = some (.slice Ao23 t797.length co23) := (blk_cell BK801.out 2).trans rfl
          have hfz46_0 := blk_frozen BK801.out 0
          have hfz46_1 := blk_frozen BK801.out 1
          have hfz46_2 := blk_frozen BK801.out 2
          go_wp2_with (first | ((with_reducible refine gate_callee (f := 25) rfl ?_); refine goesL_ (some 38) rfl rfl Try.func25 (by kernel_rfl) rfl #[.agg #[.int .i64 t808, .int .i64 t809, .slice Ao37 t810.length co37], .agg #[.int .i64 t795, .int .i64 t796, .slice Ao23 t797.length co23]] rfl (by (try simp only [List.map_toArray, List.map_cons, List.map_nil]); first | done | rfl | (simp only [List.length_drop, List.length_take]; rfl)) ?_; (with_reducible refine (laws_eqField.calls k t808 t809 _ _ t810 t795 t796 _ _ t797 true _ ?side1 ?side2 ?side3 ?side4 A38.out).mono ?_); (case side1 => refine (Kd.R_reads' (e := 3) (base := w.heap.size) (ok := fun k_ => (((True ∧ some k_ ≠ (.slice Ao18 t792.length co18 : Value).ownBlock) ∧ some k_ ≠ (.slice Ao23 t797.length co23 : Value).ownBlock) ∧ some k_ ≠ (.slice Ao30 t804.length co30 : Value).ownBlock)) (n := t810.length) (c := co37) ?_).2.2; exact (by (with_reducible repeat (first | apply Kd.R_alloc | apply Kd.R_drewN | apply Kd.R_drew)); exact (Kd.R_mono (Kd.R_far (p := ⟨gb814, 2, none⟩) (Kd.R_far (p := ⟨gb814, 1, none⟩) (Kd.R_far (p := ⟨gb814, 0, none⟩) (Kd.R_types HO812.out BK814.out (by decide)) (fun _ hk => hk.2) (.int .i64 t808)) (fun _ hk => hk.2) (.int .i64 t809)) (fun _ hk => hk.2) (.slice Ao37 t810.length co37)) (fun _ h_ => h_.1)))); (case side2 => exact (Kd.R_reads' HO812.out).2.1); (case side3 => refine (Kd.R_reads' (e := 3) (base := w.heap.size) (ok := fun k_ => (((True ∧ some k_ ≠ (.slice Ao18 t792.length co18 : Value).ownBlock) ∧ some k_ ≠ (.slice Ao30 t804.length co30 : Value).ownBlock) ∧ some k_ ≠ (.slice Ao37 t810.length co37 : Value).ownBlock)) (n := t797.length) (c := co23) ?_).2.2; exact (by (with_reducible repeat (first | apply Kd.R_alloc | apply Kd.R_drewN | apply Kd.R_drew)); exact (Kd.R_mono (Kd.R_far (p := ⟨gb814, 2, none⟩) (Kd.R_far (p := ⟨gb814, 1, none⟩) (Kd.R_far (p := ⟨gb814, 0, none⟩) (Kd.R_types HO799.out BK814.out (by decide)) (fun _ hk => hk.2) (.int .i64 t808)) (fun _ hk => hk.2) (.int .i64 t809)) (fun _ hk => hk.2) (.slice Ao37 t810.length co37)) (fun _ h_ => h_.1)))); (case side4 => exact (Kd.R_reads' HO799.out).2.1); rintro e w47 ⟨rfl, hb⟩; refine ⟨_, rfl, ?_⟩; have n0_ := Aside0.mk (Kd.R_below (by (with_reducible repeat (first | apply Kd.R_alloc | apply Kd.R_drewN | apply Kd.R_drew)); exact (Kd.R_mono (Kd.R_far (p := ⟨gb814, 2, none⟩) (Kd.R_far (p := ⟨gb814, 1, none⟩) (Kd.R_far (p := ⟨gb814, 0, none⟩) (Kd.R_types HO794.out BK814.out (by decide)) (fun _ hk => hk.2) (.int .i64 t808)) (fun _ hk => hk.2) (.int .i64 t809)) (fun _ hk => hk.2) (.slice Ao37 t810.length co37)) (fun _ h_ => h_.1))) hb); have n1_ := Aside0.mk (Kd.R_below (by (with_reducible repeat (first | apply Kd.R_alloc | apply Kd.R_drewN | apply Kd.R_drew)); exact (Kd.R_mono (Kd.R_far (p := ⟨gb814, 2, none⟩) (Kd.R_far (p := ⟨gb814, 1, none⟩) (Kd.R_far (p := ⟨gb814, 0, none⟩) (Kd.R_types HO799.out BK814.out (by decide)) (fun _ hk => hk.2) (.int .i64 t808)) (fun _ hk => hk.2) (.int .i64 t809)) (fun _ hk => hk.2) (.slice Ao37 t810.length co37)) (fun _ h_ => h_.1))) hb); have n2_ := Aside0.mk (Kd.R_below (by (with_reducible repeat (first | apply Kd.R_alloc | apply Kd.R_drewN | apply Kd.R_drew)); exact (Kd.R_mono (Kd.R_far (p := ⟨gb814, 2, none⟩) (Kd.R_far (p := ⟨gb814, 1, none⟩) (Kd.R_far (p := ⟨gb814, 0, none⟩) (Kd.R_types HO806.out BK814.out (by decide)) (fun _ hk => hk.2) (.int .i64 t808)) (fun _ hk => hk.2) (.int .i64 t809)) (fun _ hk => hk.2) (.slice Ao37 t810.length co37)) (fun _ h_ => h_.1))) hb); have n3_ := Aside0.mk (Kd.R_below (by (with_reducible repeat (first | apply Kd.R_alloc | apply Kd.R_drewN | apply Kd.R_drew)); exact (Kd.R_mono (Kd.R_far (p := ⟨gb814, 2, none⟩) (Kd.R_far (p := ⟨gb814, 1, none⟩) (Kd.R_far (p := ⟨gb814, 0, none⟩) (Kd.R_types HO812.out BK814.out (by decide)) (fun _ hk => hk.2) (.int .i64 t808)) (fun _ hk => hk.2) (.int .i64 t809)) (fun _ hk => hk.2) (.slice Ao37 t810.length co37)) (fun _ h_ => h_.1))) hb); have n4_ := Aside0.mk (blk_below (g := gb788) (o := .cells #[.int .i64 a0_0, .int .i64 a0_1, .slice A0_2 l0_2.length c0_2] 36 (0, 0)) (by (with_reducible repeat (first | refine blk_drewN ?_ _ | refine blk_drew ?_ | refine blk_alloc ?_ _)); refine blk_far ?_ NB788_814.out _; (with_reducible repeat (first | refine blk_drewN ?_ _ | refine blk_drew ?_ | refine blk_alloc ?_ _)); refine blk_far ?_ NB788_814.out _; (with_reducible repeat (first | refine blk_drewN ?_ _ | refine blk_drew ?_ | refine blk_alloc ?_ _)); refine blk_far ?_ NB788_814.out _; (with_reducible repeat (first | refine blk_drewN ?_ _ | refine blk_drew ?_ | refine blk_alloc ?_ _)); exact BK788.out) hb); have n5_ := Aside0.mk (blk_below (g := gb801) (o := .cells #[.int .i64 t795, .int .i64 t796, .slice Ao23 t797.length co23] 26 (0, 0)) (by (with_reducible repeat (first | refine blk_drewN ?_ _ | refine blk_drew ?_ | refine blk_alloc ?_ _)); refine blk_far ?_ NB801_814.out _; (with_reducible repeat (first | refine blk_drewN ?_ _ | refine blk_drew ?_ | refine blk_alloc ?_ _)); refine blk_far ?_ NB801_814.out _; (with_reducible repeat (first | refine blk_drewN ?_ _ | refine blk_drew ?_ | refine blk_alloc ?_ _)); refine blk_far ?_ NB801_814.out _; (with_reducible repeat (first | refine blk_drewN ?_ _ | refine blk_drew ?_ | refine blk_alloc ?_ _)); exact BK801.out) hb); have n6_ := Aside0.mk (blk_below (g := gb807) (o := .cells #[.int .i64 t802, .int .i64 t803, .slice Ao30 t804.length co30] 26 (0, 0)) (by (with_reducible repeat (first | refine blk_drewN ?_ _ | refine blk_drew ?_ | refine blk_alloc ?_ _)); refine blk_far ?_ NB807_814.out _; (with_reducible repeat (first | refine blk_drewN ?_ _ | refine blk_drew ?_ | refine blk_alloc ?_ _)); refine blk_far ?_ NB807_814.out _; (with_reducible repeat (first | refine blk_drewN ?_ _ | refine blk_drew ?_ | refine blk_alloc ?_ _)); refine blk_far ?_ NB807_814.out _; (with_reducible repeat (first | refine blk_drewN ?_ _ | refine blk_drew ?_ | refine blk_alloc ?_ _)); exact BK807.out) hb); have n7_ := Aside0.mk (blk_below (g := gb814) (o := .cells #[.int .i64 t808, .int .i64 t809, .slice Ao37 t810.length co37] 26 (0, 0)) (by (with_reducible repeat (first | refine blk_drewN ?_ _ | refine blk_drew ?_ | refine blk_alloc ?_ _)); refine blk_put (cs := #[.int .i64 t808, .int .i64 t809, .slice none 0 0]) ?_ 2 _ rfl; (with_reducible repeat (first | refine blk_drewN ?_ _ | refine blk_drew ?_ | refine blk_alloc ?_ _)); refine blk_put (cs := #[.int .i64 t808, .int .i64 0, .slice none 0 0]) ?_ 1 _ rfl; (with_reducible repeat (first | refine blk_drewN ?_ _ | refine blk_drew ?_ | refine blk_alloc ?_ _)); refine blk_put (cs := #[.int .i64 0, .int .i64 0, .slice none 0 0]) ?_ 0 _ rfl; (with_reducible repeat (first | refine blk_drewN ?_ _ | refine blk_drew ?_ | refine blk_alloc ?_ _)); exact BK814.out) hb); have n8_ := Aside0.mk (below_step (by repeat (first | (with_reducible first | exact HB.out | apply below_alloc | apply pw_below_drewN | apply below_drew1 | refine below_set ?_ GE788.out | refine below_set ?_ GE801.out | refine below_set ?_ GE807.out | refine below_set ?_ GE814.out) | exact HB.out)) hb); clear HO794; clear HO799; clear HO806; clear HO812; clear BK788; clear BK801; clear BK807; clear BK814; clear HB; have HO794 := n0_; have HO799 := n1_; have HO806 := n2_; have HO812 := n3_; have BK788 := n4_; have BK801 := n5_; have BK807 := n6_; have BK814 := n7_; have HB := n8_; clear n0_ n1_ n2_ n3_ n4_ n5_ n6_ n7_ n8_; (try clear hb); (try clear hb2); (try clear hk); (try clear hi)))
          go_meet
          case rel => exact ⟨_, ((t813 != t800)), (by first | rfl | (simp; done) | (simp [*]; done)), H', ⟨by first | omega | exact Nat.le_refl _⟩, ⟨by (with_reducible repeat (first | apply Kd.R_alloc | apply Kd.R_drewN | apply Kd.R_drew)); exact Kd.R_mono HO799.out (fun _ hk => ⟨hk.1.2, hk.2⟩)⟩, ⟨by (with_reducible repeat (first | apply Kd.R_alloc | apply Kd.R_drewN | apply Kd.R_drew)); exact Kd.R_mono HO806.out (fun _ hk => ⟨hk.1.2, hk.2⟩)⟩, ⟨by (with_reducible repeat (first | apply Kd.R_alloc | apply Kd.R_drewN | apply Kd.R_drew)); exact Kd.R_mono HO812.out (fun _ hk => ⟨hk.1.2, hk.2⟩)⟩, ⟨by (with_reducible repeat (first | refine blk_drewN ?_ _ | refine blk_drew ?_ | refine blk_alloc ?_ _)); exact BK788.out⟩, ⟨by (with_reducible repeat (first | refine blk_drewN ?_ _ | refine blk_drew ?_ | refine blk_alloc ?_ _)); exact BK801.out⟩, ⟨by (with_reducible repeat (first | refine blk_drewN ?_ _ | refine blk_drew ?_ | refine blk_alloc ?_ _)); exact BK807.out⟩, ⟨by (with_reducible repeat (first | refine blk_drewN ?_ _ | refine blk_drew ?_ | refine blk_alloc ?_ _)); exact BK814.out⟩, ⟨by repeat (first | (with_reducible first | exact HB.out | apply below_alloc | apply pw_below_drewN | apply below_drew1 | refine below_set ?_ GE788.out | refine below_set ?_ GE801.out | refine below_set ?_ GE807.out | refine below_set ?_ GE814.out) | exact HB.out)⟩⟩
        · replace c39 := Bool.eq_false_iff.mpr c39
          subst c39
          have H1 : (laws_FnExactLowerSlopes.j0 k a1 t800 t813 true a0_0 a0_1 l0_2 t795 t796 t797 t802 t803 t804 t808 t809 t810) = some r := by rw [if_neg (show ¬ (false = true) by decide)] at H; exact H
          clear H
          have H := H1
          clear H1
          have H' := Aside0.mk H
          clear H
          have hnb48 := NB814_788.out
          have hnc48 := NB788_814.out
          have hnb49 := NB814_801.out
          have hnc49 := NB801_814.out
          have hnb50 := NB814_807.out
          have hnc50 := NB807_814.out
          have hcz51_0 : w32.cell? ⟨gb814, 0, none⟩ = some (.int .i64 0) := (blk_cell BK814.out 0).trans rfl
          have hcz51_1 : w32.cell? ⟨gb814, 1, none⟩ = some (.int .i64 0) := (blk_cell BK814.out 1).trans rfl
          have hcz51_2 : w32.cell? ⟨gb814, 2, none⟩ = some (.slice none 0 0) := (blk_cell BK814.out 2).trans rfl
          have hfz51_0 := blk_frozen BK814.out 0
          have hfz51_1 := blk_frozen BK814.out 1
          have hfz51_2 := blk_frozen BK814.out 2
          have hnb52 := NB801_788.out
          have hnc52 := NB788_801.out
          have hnb53 := NB801_807.out
          have hnc53 := NB807_801.out
          have hcz54_0 : w32.cell? ⟨gb801, 0, none⟩ = some (.int .i64 t795) := (blk_cell BK801.out 0).trans rfl
          have hcz54_1 : w32.cell? ⟨gb801, 1, none⟩ = some (.int .i64 t796) := (blk_cell BK801.out 1).trans rfl
          have hcz54_2 : w32.cell? ⟨gb801, 2, none⟩ = some (.slice Ao23 t797.length co23) := (blk_cell BK801.out 2).trans rfl
          have hfz54_0 := blk_frozen BK801.out 0
          have hfz54_1 := blk_frozen BK801.out 1
          have hfz54_2 := blk_frozen BK801.out 2
          go_wp2_with (first | ((with_reducible refine gate_callee (f := 25) rfl ?_); refine goesL_ (some 38) rfl rfl Try.func25 (by kernel_rfl) rfl #[.agg #[.int .i64 t808, .int .i64 t809, .slice Ao37 t810.length co37], .agg #[.int .i64 t795, .int .i64 t796, .slice Ao23 t797.length co23]] rfl (by (try simp only [List.map_toArray, List.map_cons, List.map_nil]); first | done | rfl | (simp only [List.length_drop, List.length_take]; rfl)) ?_; (with_reducible refine (laws_eqField.calls k t808 t809 _ _ t810 t795 t796 _ _ t797 false _ ?side1 ?side2 ?side3 ?side4 A38.out).mono ?_); (case side1 => refine (Kd.R_reads' (e := 3) (base := w.heap.size) (ok := fun k_ => (((True ∧ some k_ ≠ (.slice Ao18 t792.length co18 : Value).ownBlock) ∧ some k_ ≠ (.slice Ao23 t797.length co23 : Value).ownBlock) ∧ some k_ ≠ (.slice Ao30 t804.length co30 : Value).ownBlock)) (n := t810.length) (c := co37) ?_).2.2; exact (by (with_reducible repeat (first | apply Kd.R_alloc | apply Kd.R_drewN | apply Kd.R_drew)); exact (Kd.R_mono (Kd.R_far (p := ⟨gb814, 2, none⟩) (Kd.R_far (p := ⟨gb814, 1, none⟩) (Kd.R_far (p := ⟨gb814, 0, none⟩) (Kd.R_types HO812.out BK814.out (by decide)) (fun _ hk => hk.2) (.int .i64 t808)) (fun _ hk => hk.2) (.int .i64 t809)) (fun _ hk => hk.2) (.slice Ao37 t810.length co37)) (fun _ h_ => h_.1)))); (case side2 => exact (Kd.R_reads' HO812.out).2.1); (case side3 => refine (Kd.R_reads' (e := 3) (base := w.heap.size) (ok := fun k_ => (((True ∧ some k_ ≠ (.slice Ao18 t792.length co18 : Value).ownBlock) ∧ some k_ ≠ (.slice Ao30 t804.length co30 : Value).ownBlock) ∧ some k_ ≠ (.slice Ao37 t810.length co37 : Value).ownBlock)) (n := t797.length) (c := co23) ?_).2.2; exact (by (with_reducible repeat (first | apply Kd.R_alloc | apply Kd.R_drewN | apply Kd.R_drew)); exact (Kd.R_mono (Kd.R_far (p := ⟨gb814, 2, none⟩) (Kd.R_far (p := ⟨gb814, 1, none⟩) (Kd.R_far (p := ⟨gb814, 0, none⟩) (Kd.R_types HO799.out BK814.out (by decide)) (fun _ hk => hk.2) (.int .i64 t808)) (fun _ hk => hk.2) (.int .i64 t809)) (fun _ hk => hk.2) (.slice Ao37 t810.length co37)) (fun _ h_ => h_.1)))); (case side4 => exact (Kd.R_reads' HO799.out).2.1); rintro e w55 ⟨rfl, hb⟩; refine ⟨_, rfl, ?_⟩; have n0_ := Aside0.mk (Kd.R_below (by (with_reducible repeat (first | apply Kd.R_alloc | apply Kd.R_drewN | apply Kd.R_drew)); exact (Kd.R_mono (Kd.R_far (p := ⟨gb814, 2, none⟩) (Kd.R_far (p := ⟨gb814, 1, none⟩) (Kd.R_far (p := ⟨gb814, 0, none⟩) (Kd.R_types HO794.out BK814.out (by decide)) (fun _ hk => hk.2) (.int .i64 t808)) (fun _ hk => hk.2) (.int .i64 t809)) (fun _ hk => hk.2) (.slice Ao37 t810.length co37)) (fun _ h_ => h_.1))) hb); have n1_ := Aside0.mk (Kd.R_below (by (with_reducible repeat (first | apply Kd.R_alloc | apply Kd.R_drewN | apply Kd.R_drew)); exact (Kd.R_mono (Kd.R_far (p := ⟨gb814, 2, none⟩) (Kd.R_far (p := ⟨gb814, 1, none⟩) (Kd.R_far (p := ⟨gb814, 0, none⟩) (Kd.R_types HO799.out BK814.out (by decide)) (fun _ hk => hk.2) (.int .i64 t808)) (fun _ hk => hk.2) (.int .i64 t809)) (fun _ hk => hk.2) (.slice Ao37 t810.length co37)) (fun _ h_ => h_.1))) hb); have n2_ := Aside0.mk (Kd.R_below (by (with_reducible repeat (first | apply Kd.R_alloc | apply Kd.R_drewN | apply Kd.R_drew)); exact (Kd.R_mono (Kd.R_far (p := ⟨gb814, 2, none⟩) (Kd.R_far (p := ⟨gb814, 1, none⟩) (Kd.R_far (p := ⟨gb814, 0, none⟩) (Kd.R_types HO806.out BK814.out (by decide)) (fun _ hk => hk.2) (.int .i64 t808)) (fun _ hk => hk.2) (.int .i64 t809)) (fun _ hk => hk.2) (.slice Ao37 t810.length co37)) (fun _ h_ => h_.1))) hb); have n3_ := Aside0.mk (Kd.R_below (by (with_reducible repeat (first | apply Kd.R_alloc | apply Kd.R_drewN | apply Kd.R_drew)); exact (Kd.R_mono (Kd.R_far (p := ⟨gb814, 2, none⟩) (Kd.R_far (p := ⟨gb814, 1, none⟩) (Kd.R_far (p := ⟨gb814, 0, none⟩) (Kd.R_types HO812.out BK814.out (by decide)) (fun _ hk => hk.2) (.int .i64 t808)) (fun _ hk => hk.2) (.int .i64 t809)) (fun _ hk => hk.2) (.slice Ao37 t810.length co37)) (fun _ h_ => h_.1))) hb); have n4_ := Aside0.mk (blk_below (g := gb788) (o := .cells #[.int .i64 a0_0, .int .i64 a0_1, .slice A0_2 l0_2.length c0_2] 36 (0, 0)) (by (with_reducible repeat (first | refine blk_drewN ?_ _ | refine blk_drew ?_ | refine blk_alloc ?_ _)); refine blk_far ?_ NB788_814.out _; (with_reducible repeat (first | refine blk_drewN ?_ _ | refine blk_drew ?_ | refine blk_alloc ?_ _)); refine blk_far ?_ NB788_814.out _; (with_reducible repeat (first | refine blk_drewN ?_ _ | refine blk_drew ?_ | refine blk_alloc ?_ _)); refine blk_far ?_ NB788_814.out _; (with_reducible repeat (first | refine blk_drewN ?_ _ | refine blk_drew ?_ | refine blk_alloc ?_ _)); exact BK788.out) hb); have n5_ := Aside0.mk (blk_below (g := gb801) (o := .cells #[.int .i64 t795, .int .i64 t796, .slice Ao23 t797.length co23] 26 (0, 0)) (by (with_reducible repeat (first | refine blk_drewN ?_ _ | refine blk_drew ?_ | refine blk_alloc ?_ _)); refine blk_far ?_ NB801_814.out _; (with_reducible repeat (first | refine blk_drewN ?_ _ | refine blk_drew ?_ | refine blk_alloc ?_ _)); refine blk_far ?_ NB801_814.out _; (with_reducible repeat (first | refine blk_drewN ?_ _ | refine blk_drew ?_ | refine blk_alloc ?_ _)); refine blk_far ?_ NB801_814.out _; (with_reducible repeat (first | refine blk_drewN ?_ _ | refine blk_drew ?_ | refine blk_alloc ?_ _)); exact BK801.out) hb); have n6_ := Aside0.mk (blk_below (g := gb807) (o := .cells #[.int .i64 t802, .int .i64 t803, .slice Ao30 t804.length co30] 26 (0, 0)) (by (with_reducible repeat (first | refine blk_drewN ?_ _ | refine blk_drew ?_ | refine blk_alloc ?_ _)); refine blk_far ?_ NB807_814.out _; (with_reducible repeat (first | refine blk_drewN ?_ _ | refine blk_drew ?_ | refine blk_alloc ?_ _)); refine blk_far ?_ NB807_814.out _; (with_reducible repeat (first | refine blk_drewN ?_ _ | refine blk_drew ?_ | refine blk_alloc ?_ _)); refine blk_far ?_ NB807_814.out _; (with_reducible repeat (first | refine blk_drewN ?_ _ | refine blk_drew ?_ | refine blk_alloc ?_ _)); exact BK807.out) hb); have n7_ := Aside0.mk (blk_below (g := gb814) (o := .cells #[.int .i64 t808, .int .i64 t809, .slice Ao37 t810.length co37] 26 (0, 0)) (by (with_reducible repeat (first | refine blk_drewN ?_ _ | refine blk_drew ?_ | refine blk_alloc ?_ _)); refine blk_put (cs := #[.int .i64 t808, .int .i64 t809, .slice none 0 0]) ?_ 2 _ rfl; (with_reducible repeat (first | refine blk_drewN ?_ _ | refine blk_drew ?_ | refine blk_alloc ?_ _)); refine blk_put (cs := #[.int .i64 t808, .int .i64 0, .slice none 0 0]) ?_ 1 _ rfl; (with_reducible repeat (first | refine blk_drewN ?_ _ | refine blk_drew ?_ | refine blk_alloc ?_ _)); refine blk_put (cs := #[.int .i64 0, .int .i64 0, .slice none 0 0]) ?_ 0 _ rfl; (with_reducible repeat (first | refine blk_drewN ?_ _ | refine blk_drew ?_ | refine blk_alloc ?_ _)); exact BK814.out) hb); have n8_ := Aside0.mk (below_step (by repeat (first | (with_reducible first | exact HB.out | apply below_alloc | apply pw_below_drewN | apply below_drew1 | refine below_set ?_ GE788.out | refine below_set ?_ GE801.out | refine below_set ?_ GE807.out | refine below_set ?_ GE814.out) | exact HB.out)) hb); clear HO794; clear HO799; clear HO806; clear HO812; clear BK788; clear BK801; clear BK807; clear BK814; clear HB; have HO794 := n0_; have HO799 := n1_; have HO806 := n2_; have HO812 := n3_; have BK788 := n4_; have BK801 := n5_; have BK807 := n6_; have BK814 := n7_; have HB := n8_; clear n0_ n1_ n2_ n3_ n4_ n5_ n6_ n7_ n8_; (try clear hb); (try clear hb2); (try clear hk); (try clear hi)))
          go_meet
          case rel => exact ⟨_, (true), (by first | rfl | (simp; done) | (simp [*]; done)), H', ⟨by first | omega | exact Nat.le_refl _⟩, ⟨by (with_reducible repeat (first | apply Kd.R_alloc | apply Kd.R_drewN | apply Kd.R_drew)); exact Kd.R_mono HO799.out (fun _ hk => ⟨hk.1.2, hk.2⟩)⟩, ⟨by (with_reducible repeat (first | apply Kd.R_alloc | apply Kd.R_drewN | apply Kd.R_drew)); exact Kd.R_mono HO806.out (fun _ hk => ⟨hk.1.2, hk.2⟩)⟩, ⟨by (with_reducible repeat (first | apply Kd.R_alloc | apply Kd.R_drewN | apply Kd.R_drew)); exact Kd.R_mono HO812.out (fun _ hk => ⟨hk.1.2, hk.2⟩)⟩, ⟨by (with_reducible repeat (first | refine blk_drewN ?_ _ | refine blk_drew ?_ | refine blk_alloc ?_ _)); exact BK788.out⟩, ⟨by (with_reducible repeat (first | refine blk_drewN ?_ _ | refine blk_drew ?_ | refine blk_alloc ?_ _)); exact BK801.out⟩, ⟨by (with_reducible repeat (first | refine blk_drewN ?_ _ | refine blk_drew ?_ | refine blk_alloc ?_ _)); exact BK807.out⟩, ⟨by (with_reducible repeat (first | refine blk_drewN ?_ _ | refine blk_drew ?_ | refine blk_alloc ?_ _)); exact BK814.out⟩, ⟨by repeat (first | (with_reducible first | exact HB.out | apply below_alloc | apply pw_below_drewN | apply below_drew1 | refine below_set ?_ GE788.out | refine below_set ?_ GE801.out | refine below_set ?_ GE807.out | refine below_set ?_ GE814.out) | exact HB.out)⟩⟩
    case rest =>
      as_aux_lemma =>
        clear HC12
        try clear c1
        try clear c2
        try clear p2
        try clear c3
        try clear c4
        try clear c4b0
        try clear c5
        try clear c6
        try clear c13
        try clear c15
        try clear c20
        try clear c21
        try clear c22
        try clear c25
        try clear c27
        try clear c28
        try clear c33
        try clear c34
        try clear c35
        try clear c39
        try clear c40
        try clear c41
        try clear c42
        try clear c44
        try clear c45
        try clear c48
        try clear c49
        try clear c50
        try clear c52
        try clear c53
        try clear hcz14_0
        try clear hcz14_1
        try clear hcz14_2
        try clear hcz16_0
        try clear hcz16_1
        try clear hcz16_2
        try clear hcz22_0
        try clear hcz22_1
        try clear hcz22_2
        try clear hcz24_0
        try clear hcz24_1
        try clear hcz24_2
        try clear hcz29_0
        try clear hcz29_1
        try clear hcz29_2
        try clear hcz36_0
        try clear hcz36_1
        try clear hcz36_2
        try clear hcz43_0
        try clear hcz43_1
        try clear hcz43_2
        try clear hcz46_0
        try clear hcz46_1
        try clear hcz46_2
        try clear hcz51_0
        try clear hcz51_1
        try clear hcz51_2
        try clear hcz54_0
        try clear hcz54_1
        try clear hcz54_2
        try clear hcz6_0
        try clear hcz6_1
        try clear hcz6_2
        try clear hfz14_0
        try clear hfz14_1
        try clear hfz14_2
        try clear hfz16_0
        try clear hfz16_1
        try clear hfz16_2
        try clear hfz22_0
        try clear hfz22_1
        try clear hfz22_2
        try clear hfz24_0
        try clear hfz24_1
        try clear hfz24_2
        try clear hfz29_0
        try clear hfz29_1
        try clear hfz29_2
        try clear hfz36_0
        try clear hfz36_1
        try clear hfz36_2
        try clear hfz43_0
        try clear hfz43_1
        try clear hfz43_2
        try clear hfz46_0
        try clear hfz46_1
        try clear hfz46_2
        try clear hfz51_0
        try clear hfz51_1
        try clear hfz51_2
        try clear hfz54_0
        try clear hfz54_1
        try clear hfz54_2
        try clear hfz6_0
        try clear hfz6_1
        try clear hfz6_2
        obtain ⟨kq, x44_11, rfl, HA, HJ11, HO_802002, HO_808002, HO_815002, BK788, BK801, BK807, BK814, HB⟩ := hcut
        cases kq with
        | zero => exact absurd HA.out (by simp [laws_FnExactLowerSlopes.j0])
        | succ kj11 =>
          have H := HA.out
          clear HA
          simp only [laws_FnExactLowerSlopes.j0] at H
          by_cases c56 : x44_11 = true
          · subst c56
            have H1 : (some false) = some r := by rw [if_pos rfl] at H; exact H
            exact absurd ((Option.some.inj H1).trans hrt_) (by decide)
          · replace c56 := Bool.eq_false_iff.mpr c56
            subst c56
            have H1 : ((laws_toField.f kj11 a0_0 a0_1 l0_2).bind fun bt816 => ((laws_eqField.f kj11 t802 t803 t804 bt816.1 bt816.2.1 bt816.2.2).bind fun t821 => (if t821 = true then ((laws_markField.f kj11 t802 t803 t804 1).bind fun bt822 => (if bt822.1 < 0 then (laws_FnExactLowerSlopes.j1 kj11 a1 t800 true a0_0 a0_1 l0_2 t795 t796 t797 t808 t809 t810) else ((laws_eqField.f kj11 t808 t809 t810 t795 t796 t797).bind fun t824 => (if t824 = true then (laws_FnExactLowerSlopes.j1 kj11 a1 t800 (t813 != t800) a0_0 a0_1 l0_2 t795 t796 t797 t808 t809 t810) else (laws_FnExactLowerSlopes.j1 kj11 a1 t800 true a0_0 a0_1 l0_2 t795 t796 t797 t808 t809 t810))))) else (some false)))) = some r := by rw [if_neg (show ¬ (false = true) by decide)] at H; exact H
            clear H
            have H := H1
            clear H1
            replace H := Option.bind_eq_some_iff.mp H
            obtain ⟨⟨t816, t817, t818⟩, A570, H⟩ := H
            replace H : ((laws_eqField.f kj11 t802 t803 t804 t816 t817 t818).bind fun t821 => (if t821 = true then ((laws_markField.f kj11 t802 t803 t804 1).bind fun bt822 => (if bt822.1 < 0 then (laws_FnExactLowerSlopes.j1 kj11 a1 t800 true a0_0 a0_1 l0_2 t795 t796 t797 t808 t809 t810) else ((laws_eqField.f kj11 t808 t809 t810 t795 t796 t797).bind fun t824 => (if t824 = true then (laws_FnExactLowerSlopes.j1 kj11 a1 t800 (t813 != t800) a0_0 a0_1 l0_2 t795 t796 t797 t808 t809 t810) else (laws_FnExactLowerSlopes.j1 kj11 a1 t800 true a0_0 a0_1 l0_2 t795 t796 t797 t808 t809 t810))))) else (some false))) = some r := H
            have A57 := Aside0.mk A570
            clear A570
            replace H := Option.bind_eq_some_iff.mp H
            obtain ⟨t821, A580, H⟩ := H
            replace H : (if t821 = true then ((laws_markField.f kj11 t802 t803 t804 1).bind fun bt822 => (if bt822.1 < 0 then (laws_FnExactLowerSlopes.j1 kj11 a1 t800 true a0_0 a0_1 l0_2 t795 t796 t797 t808 t809 t810) else ((laws_eqField.f kj11 t808 t809 t810 t795 t796 t797).bind fun t824 => (if t824 = true then (laws_FnExactLowerSlopes.j1 kj11 a1 t800 (t813 != t800) a0_0 a0_1 l0_2 t795 t796 t797 t808 t809 t810) else (laws_FnExactLowerSlopes.j1 kj11 a1 t800 true a0_0 a0_1 l0_2 t795 t796 t797 t808 t809 t810))))) else (some false)) = some r := H
            have A58 := Aside0.mk A580
            clear A580
            by_cases c59 : t821 = true
            · subst c59
              have H1 : ((laws_markField.f kj11 t802 t803 t804 1).bind fun bt822 => (if bt822.1 < 0 then (laws_FnExactLowerSlopes.j1 kj11 a1 t800 true a0_0 a0_1 l0_2 t795 t796 t797 t808 t809 t810) else ((laws_eqField.f kj11 t808 t809 t810 t795 t796 t797).bind fun t824 => (if t824 = true then (laws_FnExactLowerSlopes.j1 kj11 a1 t800 (t813 != t800) a0_0 a0_1 l0_2 t795 t796 t797 t808 t809 t810) else (laws_FnExactLowerSlopes.j1 kj11 a1 t800 true a0_0 a0_1 l0_2 t795 t796 t797 t808 t809 t810))))) = some r := by rw [if_pos rfl] at H; exact H
              clear H
              have H := H1
              clear H1
              replace H := Option.bind_eq_some_iff.mp H
              obtain ⟨⟨t822, t823⟩, A600, H⟩ := H
              replace H : (if t822 < 0 then (laws_FnExactLowerSlopes.j1 kj11 a1 t800 true a0_0 a0_1 l0_2 t795 t796 t797 t808 t809 t810) else ((laws_eqField.f kj11 t808 t809 t810 t795 t796 t797).bind fun t824 => (if t824 = true then (laws_FnExactLowerSlopes.j1 kj11 a1 t800 (t813 != t800) a0_0 a0_1 l0_2 t795 t796 t797 t808 t809 t810) else (laws_FnExactLowerSlopes.j1 kj11 a1 t800 true a0_0 a0_1 l0_2 t795 t796 t797 t808 t809 t810)))) = some r := H
              have A60 := Aside0.mk A600
              clear A600
              have HC61 := Aside0.mk H
              clear H
              try go_wp2
              have n0_ := Aside0.mk (Kd.R_drew HO_802002.out)
              have n1_ := Aside0.mk (Kd.R_drew HO_808002.out)
              have n2_ := Aside0.mk (Kd.R_drew HO_815002.out)
              have n3_ := Aside0.mk (blk_drew BK788.out)
              have n4_ := Aside0.mk (blk_drew BK801.out)
              have n5_ := Aside0.mk (blk_drew BK807.out)
              have n6_ := Aside0.mk (blk_drew BK814.out)
              have n7_ := Aside0.mk (below_drew1 HB.out)
              clear HO_802002
              clear HO_808002
              clear HO_815002
              clear BK788
              clear BK801
              clear BK807
              clear BK814
              clear HB
              have HO_802002 := n0_
              have HO_808002 := n1_
              have HO_815002 := n2_
              have BK788 := n3_
              have BK801 := n4_
              have BK807 := n5_
              have BK814 := n6_
              have HB := n7_
              clear n0_ n1_ n2_ n3_ n4_ n5_ n6_ n7_
              refine start_ (n := 5) (S := fun w' => w'.cell? ⟨gb807, 0, none⟩ = some (.int .i64 t802) ∧ w'.cell? ⟨gb807, 1, none⟩ = some (.int .i64 t803) ∧ w'.cell? ⟨gb807, 2, none⟩ = some (.slice Ao30 t804.length co30) ∧ w'.cell? ⟨gb788, 0, none⟩ = some (.int .i64 a0_0) ∧ w'.cell? ⟨gb788, 1, none⟩ = some (.int .i64 a0_1) ∧ w'.cell? ⟨gb788, 2, none⟩ = some (.slice A0_2 l0_2.length c0_2)) (ds := []) #[false, false, false, false, false] (by kernel_rfl) rfl rfl ⟨(blk_cell BK807.out 0).trans rfl, (blk_cell BK807.out 1).trans rfl, (blk_cell BK807.out 2).trans rfl, (blk_cell BK788.out 0).trans rfl, (blk_cell BK788.out 1).trans rfl, (blk_cell BK788.out 2).trans rfl⟩ (fun hHeld => ?_)
              generalize wc.drew = w62 at HO_802002 HO_808002 HO_815002 BK788 BK801 BK807 BK814 HB hHeld ⊢
              refine take_ (i := 0) (N := some 45) (v := ?_) (a' := ?_) #[true, false, false, false, false] rfl rfl (by kernel_rfl) (fun _ _ _ h => h) (Or.inl ⟨by rfl, ?_⟩) hHeld ?_ ?_
              rotate_left
              · rintro w' ⟨s0, s1, s2, s3, s4, s5⟩
                go_simp
                with_reducible rfl
              rotate_left
              · simp only [Act.put, List.setIfInBounds_toArray, List.set_cons_zero, List.set_cons_succ, i64_w, i32_w]
                rfl
              refine take_ (i := 1) (N := some 46) (v := ?_) (a' := ?_) #[true, true, false, false, false] rfl rfl (by kernel_rfl) (fun _ _ _ h => h) (Or.inl ⟨by rfl, ?_⟩) hHeld ?_ ?_
              rotate_left
              · rintro w' ⟨s0, s1, s2, s3, s4, s5⟩
                go_simp
                with_reducible rfl
              rotate_left
              · simp only [Act.put, List.setIfInBounds_toArray, List.set_cons_zero, List.set_cons_succ, i64_w, i32_w]
                rfl
              refine one_ (i := 2) (N := some 47) #[true, true, true, false, false] rfl rfl (by kernel_rfl) (by decide) (fun K hK => ?_)
              refine goes_ Try.func22 (by kernel_rfl) rfl #[.agg #[.int .i64 a0_0, .int .i64 a0_1, .slice A0_2 l0_2.length c0_2]] (by rfl) rfl rfl (by (try simp only [List.map_toArray, List.map_cons, List.map_nil]); first | done | rfl | (simp only [List.length_drop, List.length_take]; rfl)) ?_
              with_reducible refine (laws_toField.calls kj11 a0_0 a0_1 _ _ l0_2 t816 t817 t818 _ ?side1 ?side2 A57.out).mono ?_
              (case side1 => repeat (first | exact (Kd.C_below HR0_2.out HB.out) | (with_reducible refine Kd.C_alloc ?_ _) | (with_reducible refine Kd.C_drewN ?_ _) | (with_reducible refine Kd.C_drew ?_)))
              (case side2 => exact HC0_2.out)
              rintro e w63 ⟨v819, rfl, ho0, hb⟩
              refine ⟨_, rfl, ?_⟩
              have n0_ := Aside0.mk (Kd.R_elder' (by (with_reducible repeat (first | apply Kd.R_alloc | apply Kd.R_drewN | apply Kd.R_drew)); exact HO_802002.out) (Kd.R_base ho0) hb)
              have n1_ := Aside0.mk (Kd.R_elder' (by (with_reducible repeat (first | apply Kd.R_alloc | apply Kd.R_drewN | apply Kd.R_drew)); exact HO_808002.out) (Kd.R_base ho0) hb)
              have n2_ := Aside0.mk (Kd.R_elder' (by (with_reducible repeat (first | apply Kd.R_alloc | apply Kd.R_drewN | apply Kd.R_drew)); exact HO_815002.out) (Kd.R_base ho0) hb)
              have n3_ := Aside0.mk (Kd.R_lower (Kd.R_new' (Kd.R_new' (Kd.R_new' ho0 (Kd.R_lt (by (with_reducible repeat (first | apply Kd.R_alloc | apply Kd.R_drewN | apply Kd.R_drew)); exact HO_802002.out))) (Kd.R_lt (by (with_reducible repeat (first | apply Kd.R_alloc | apply Kd.R_drewN | apply Kd.R_drew)); exact HO_808002.out))) (Kd.R_lt (by (with_reducible repeat (first | apply Kd.R_alloc | apply Kd.R_drewN | apply Kd.R_drew)); exact HO_815002.out))) (below_size (by repeat (first | (with_reducible first | exact HB.out | apply below_alloc | apply pw_below_drewN | apply below_drew1 | refine below_set ?_ GE788.out | refine below_set ?_ GE801.out | refine below_set ?_ GE807.out | refine below_set ?_ GE814.out) | exact HB.out))))
              have n4_ := Aside0.mk (blk_below (g := gb788) (o := .cells #[.int .i64 a0_0, .int .i64 a0_1, .slice A0_2 l0_2.length c0_2] 36 (0, 0)) BK788.out hb)
              have n5_ := Aside0.mk (blk_below (g := gb801) (o := .cells #[.int .i64 t795, .int .i64 t796, .slice Ao23 t797.length co23] 26 (0, 0)) BK801.out hb)
              have n6_ := Aside0.mk (blk_below (g := gb807) (o := .cells #[.int .i64 t802, .int .i64 t803, .slice Ao30 t804.length co30] 26 (0, 0)) BK807.out hb)
              have n7_ := Aside0.mk (blk_below (g := gb814) (o := .cells #[.int .i64 t808, .int .i64 t809, .slice Ao37 t810.length co37] 26 (0, 0)) BK814.out hb)
              have n8_ := Aside0.mk (below_step (by repeat (first | (with_reducible first | exact HB.out | apply below_alloc | apply pw_below_drewN | apply below_drew1 | refine below_set ?_ GE788.out | refine below_set ?_ GE801.out | refine below_set ?_ GE807.out | refine below_set ?_ GE814.out) | exact HB.out)) hb)
              clear HO_802002
              clear HO_808002
              clear HO_815002
              clear BK788
              clear BK801
              clear BK807
              clear BK814
              clear HB
              have HO_802002 := n0_
              have HO_808002 := n1_
              have HO_815002 := n2_
              have HO820 := n3_
              have BK788 := n4_
              have BK801 := n5_
              have BK807 := n6_
              have BK814 := n7_
              have HB := n8_
              clear n0_ n1_ n2_ n3_ n4_ n5_ n6_ n7_ n8_
              (try clear hb)
              (try clear hb2)
              (try clear hk)
              (try clear hi)
              (try clear ho0)
              obtain ⟨Ao64, co64, eo64⟩ := Kd.R_slice HO820.out
              (first | subst eo64 | (injection eo64 with f1_ f2_ f3_; have f4_ := f1_.symm; have f5_ := f3_.symm; clear f1_ f2_ f3_; subst f4_; subst f5_))
              refine hK.out _ _ ⟨(blk_cell BK807.out 0).trans rfl, (blk_cell BK807.out 1).trans rfl, (blk_cell BK807.out 2).trans rfl, (blk_cell BK788.out 0).trans rfl, (blk_cell BK788.out 1).trans rfl, (blk_cell BK788.out 2).trans rfl⟩ (fun hHeld => ?_)
              clear hK K
              refine norm_ (a' := ?_) ?_ ?_
              rotate_left
              · show Act.put _ (some 47) _ = _
                simp only [Act.put, List.setIfInBounds_toArray, List.set_cons_zero, List.set_cons_succ, i64_w, i32_w]
                rfl
              refine one_ (i := 3) (N := some 48) #[true, true, true, true, false] rfl rfl (by kernel_rfl) (by decide) (fun K hK => ?_)
              refine goes_ Try.func25 (by kernel_rfl) rfl #[.agg #[.int .i64 t802, .int .i64 t803, .slice Ao30 t804.length co30], .agg #[.int .i64 t816, .int .i64 t817, .slice Ao64 t818.length co64]] (by rfl) rfl rfl (by (try simp only [List.map_toArray, List.map_cons, List.map_nil]); first | done | rfl | (simp only [List.length_drop, List.length_take]; rfl)) ?_
              with_reducible refine (laws_eqField.calls kj11 t802 t803 _ _ t804 t816 t817 _ _ t818 true _ ?side1 ?side2 ?side3 ?side4 A58.out).mono ?_
              (case side1 => repeat (first | exact (Kd.R_reads' HO_808002.out).2.2 | (with_reducible refine Kd.C_alloc ?_ _) | (with_reducible refine Kd.C_drewN ?_ _) | (with_reducible refine Kd.C_drew ?_)))
              (case side2 => exact (Kd.R_reads' HO_808002.out).2.1)
              (case side3 => repeat (first | exact (Kd.R_reads' HO820.out).2.2 | (with_reducible refine Kd.C_alloc ?_ _) | (with_reducible refine Kd.C_drewN ?_ _) | (with_reducible refine Kd.C_drew ?_)))
              (case side4 => exact (Kd.R_reads' HO820.out).2.1)
              rintro e w65 ⟨rfl, hb⟩
              refine ⟨_, rfl, ?_⟩
              have n0_ := Aside0.mk (Kd.R_below (by (with_reducible repeat (first | apply Kd.R_alloc | apply Kd.R_drewN | apply Kd.R_drew)); exact HO_802002.out) hb)
              have n1_ := Aside0.mk (Kd.R_below (by (with_reducible repeat (first | apply Kd.R_alloc | apply Kd.R_drewN | apply Kd.R_drew)); exact HO_808002.out) hb)
              have n2_ := Aside0.mk (Kd.R_below (by (with_reducible repeat (first | apply Kd.R_alloc | apply Kd.R_drewN | apply Kd.R_drew)); exact HO_815002.out) hb)
              have n3_ := Aside0.mk (Kd.R_below (by (with_reducible repeat (first | apply Kd.R_alloc | apply Kd.R_drewN | apply Kd.R_drew)); exact HO820.out) hb)
              have n4_ := Aside0.mk (blk_below (g := gb788) (o := .cells #[.int .i64 a0_0, .int .i64 a0_1, .slice A0_2 l0_2.length c0_2] 36 (0, 0)) BK788.out hb)
              have n5_ := Aside0.mk (blk_below (g := gb801) (o := .cells #[.int .i64 t795, .int .i64 t796, .slice Ao23 t797.length co23] 26 (0, 0)) BK801.out hb)
              have n6_ := Aside0.mk (blk_below (g := gb807) (o := .cells #[.int .i64 t802, .int .i64 t803, .slice Ao30 t804.length co30] 26 (0, 0)) BK807.out hb)
              have n7_ := Aside0.mk (blk_below (g := gb814) (o := .cells #[.int .i64 t808, .int .i64 t809, .slice Ao37 t810.length co37] 26 (0, 0)) BK814.out hb)
              have n8_ := Aside0.mk (below_step (by repeat (first | (with_reducible first | exact HB.out | apply below_alloc | apply pw_below_drewN | apply below_drew1 | refine below_set ?_ GE788.out | refine below_set ?_ GE801.out | refine below_set ?_ GE807.out | refine below_set ?_ GE814.out) | exact HB.out)) hb)
              clear HO_802002
              clear HO_808002
              clear HO_815002
              clear HO820
              clear BK788
              clear BK801
              clear BK807
              clear BK814
              clear HB
              have HO_802002 := n0_
              have HO_808002 := n1_
              have HO_815002 := n2_
              have HO820 := n3_
              have BK788 := n4_
              have BK801 := n5_
              have BK807 := n6_
              have BK814 := n7_
              have HB := n8_
              clear n0_ n1_ n2_ n3_ n4_ n5_ n6_ n7_ n8_
              (try clear hb)
              (try clear hb2)
              (try clear hk)
              (try clear hi)
              refine hK.out _ _ ⟨(blk_cell BK807.out 0).trans rfl, (blk_cell BK807.out 1).trans rfl, (blk_cell BK807.out 2).trans rfl, (blk_cell BK788.out 0).trans rfl, (blk_cell BK788.out 1).trans rfl, (blk_cell BK788.out 2).trans rfl⟩ (fun hHeld => ?_)
              clear hK K
              refine norm_ (a' := ?_) ?_ ?_
              rotate_left
              · show Act.put _ (some 48) _ = _
                simp only [Act.put, List.setIfInBounds_toArray, List.set_cons_zero, List.set_cons_succ, i64_w, i32_w]
                rfl
              refine pure_ (i := 4) (N := some 49) (v := ?_) (a' := ?_) #[true, true, true, true, true] rfl rfl (by kernel_rfl) (fun _ _ _ h => h) (Or.inl ⟨by rfl, ?_⟩) ?_ ?_
              rotate_left
              · intro w'
                go_simp
                with_reducible rfl
              rotate_left
              · simp only [Act.put, List.setIfInBounds_toArray, List.set_cons_zero, List.set_cons_succ, i64_w, i32_w]
                rfl
              refine done_ (by kernel_rfl) ?_
              have hnb66 := NB807_788.out
              have hnc66 := NB788_807.out
              have hnb67 := NB807_801.out
              have hnc67 := NB801_807.out
              have hnb68 := NB807_814.out
              have hnc68 := NB814_807.out
              have hcz69_0 : w65.cell? ⟨gb807, 0, none⟩ = some (.int .i64 t802) := (blk_cell BK807.out 0).trans rfl
              have hcz69_1 : w65.cell? ⟨gb807, 1, none⟩ = some (.int .i64 t803) := (blk_cell BK807.out 1).trans rfl
              have hcz69_2 : w65.cell? ⟨gb807, 2, none⟩ = some (.slice Ao30 t804.length co30) := (blk_cell BK807.out 2).trans rfl
              have hfz69_0 := blk_frozen BK807.out 0
              have hfz69_1 := blk_frozen BK807.out 1
              have hfz69_2 := blk_frozen BK807.out 2
              go_upto_region 14 with (first | ((with_reducible refine gate_callee (f := 27) rfl ?_); refine goesL_ (some 52) rfl rfl Try.func27 (by kernel_rfl) rfl #[.agg #[.int .i64 t802, .int .i64 t803, .slice Ao30 t804.length co30], .int .i64 1] rfl (by (try simp only [List.map_toArray, List.map_cons, List.map_nil]); first | done | rfl | (simp only [List.length_drop, List.length_take]; rfl)) ?_; (with_reducible refine (laws_markField.calls kj11 t802 t803 (fun k_ => some k_ = (.slice Ao30 t804.length co30 : Value).ownBlock) (.slice Ao30 t804.length co30) t804 1 t822 t823 w _ ?side1 ?side2 A60.out).mono ?_); (case side1 => repeat (first | (with_reducible first | exact HB.out | apply below_alloc | apply pw_below_drewN | apply below_drew1 | refine below_set ?_ GE788.out | refine below_set ?_ GE801.out | refine below_set ?_ GE807.out | refine below_set ?_ GE814.out) | exact HB.out)); (case side2 => exact Kd.R_tight rfl HO_808002.out); rintro e w70 ⟨rfl, hy0, hb, hkp⟩; refine ⟨_, rfl, ?_⟩; have n0_ := Aside0.mk (Kd.R_mono (ok' := fun k_ => some k_ ≠ (.slice Ao30 t804.length co30 : Value).ownBlock ∧ some k_ ≠ (.slice Ao37 t810.length co37 : Value).ownBlock ∧ some k_ ≠ (.slice Ao64 t818.length co64 : Value).ownBlock) (Kd.R_keptB (HO_802002.out) hkp (fun k_ hk_ hs_ => (hk_.1.1) hs_)) (fun k_ hk_ => ⟨hk_.1.1.1, hk_.1.1.2, hk_.1.2⟩)); have n1_ := Aside0.mk (Kd.R_reok rfl hy0 (fun k_ e_ => HO_808002.out.1 k_ e_)); have n2_ := Aside0.mk (Kd.R_mono (ok' := fun k_ => some k_ ≠ (.slice Ao23 t797.length co23 : Value).ownBlock ∧ some k_ ≠ (.slice Ao30 t804.length co30 : Value).ownBlock ∧ some k_ ≠ (.slice Ao64 t818.length co64 : Value).ownBlock) (Kd.R_keptB (HO_815002.out) hkp (fun k_ hk_ hs_ => (hk_.1.2) hs_)) (fun k_ hk_ => ⟨hk_.1.1.1, hk_.1.1.2, hk_.1.2⟩)); have n3_ := Aside0.mk (blk_kept BK788.out hkp (fun hs_ => (fun e_ => (Kd.R_ne HO_808002.out BK788.out (by decide)) e_) hs_)); have n4_ := Aside0.mk (blk_kept BK801.out hkp (fun hs_ => (fun e_ => (Kd.R_ne HO_808002.out BK801.out (by decide)) e_) hs_)); have n5_ := Aside0.mk (blk_kept BK807.out hkp (fun hs_ => (fun e_ => (Kd.R_ne HO_808002.out BK807.out (by decide)) e_) hs_)); have n6_ := Aside0.mk (blk_kept BK814.out hkp (fun hs_ => (fun e_ => (Kd.R_ne HO_808002.out BK814.out (by decide)) e_) hs_)); have n7_ := Aside0.mk (Kd.R_mono (ok' := fun k_ => some k_ ≠ (.slice Ao23 t797.length co23 : Value).ownBlock ∧ some k_ ≠ (.slice Ao30 t804.length co30 : Value).ownBlock ∧ some k_ ≠ (.slice Ao37 t810.length co37 : Value).ownBlock) (Kd.R_keptB (HO820.out) hkp (fun k_ hk_ hs_ => (hk_.1.2) hs_)) (fun k_ hk_ => ⟨hk_.1.1.1.2, hk_.1.1.2, hk_.1.2⟩)); have n8_ := Aside0.mk (hb); clear HO_802002; clear HO_808002; clear HO_815002; clear BK788; clear BK801; clear BK807; clear BK814; clear HO820; clear HB; have HO_802002 := n0_; have HO_808002 := n1_; have HO_815002 := n2_; have BK788 := n3_; have BK801 := n4_; have BK807 := n5_; have BK814 := n6_; have HO820 := n7_; have HB := n8_; clear n0_ n1_ n2_ n3_ n4_ n5_ n6_ n7_ n8_; (try clear hb); (try clear hkp); (try clear hy0)))
              (try simp only [Act.put, List.setIfInBounds_toArray, List.set_cons_zero, List.set_cons_succ])
              go_cut [65] (fun v65 wc => ∃ (kq : Nat) (x65_60 : Bool), v65 = .bool x65_60 ∧ Aside0 (laws_FnExactLowerSlopes.j1 kq a1 t800 x65_60 a0_0 a0_1 l0_2 t795 t796 t797 t808 t809 t810 = some r) ∧ Aside0 (kq ≤ kj11) ∧ Aside0 (Kd.R (Kd.int .i64) 3 wc w.heap.size (fun k_ => some k_ ≠ ((.slice Ao30 t804.length co30) : Value).ownBlock ∧ some k_ ≠ ((.slice Ao37 t810.length co37) : Value).ownBlock) (.slice Ao23 t797.length co23) t797) ∧ Aside0 (Kd.R (Kd.int .i64) 3 wc w.heap.size (fun k_ => some k_ ≠ ((.slice Ao23 t797.length co23) : Value).ownBlock ∧ some k_ ≠ ((.slice Ao37 t810.length co37) : Value).ownBlock) (.slice Ao30 t804.length co30) t823) ∧ Aside0 (Kd.R (Kd.int .i64) 3 wc w.heap.size (fun k_ => some k_ ≠ ((.slice Ao23 t797.length co23) : Value).ownBlock ∧ some k_ ≠ ((.slice Ao30 t804.length co30) : Value).ownBlock) (.slice Ao37 t810.length co37) t810) ∧ Aside0 (wc.heap[gb788]? = some (.cells #[.int .i64 a0_0, .int .i64 a0_1, (.slice A0_2 l0_2.length c0_2)] 36 (0, 0))) ∧ Aside0 (wc.heap[gb801]? = some (.cells #[.int .i64 t795, .int .i64 t796, (.slice Ao23 t797.length co23)] 26 (0, 0))) ∧ Aside0 (wc.heap[gb807]? = some (.cells #[.int .i64 t802, .int .i64 t803, (.slice Ao30 t804.length co30)] 26 (0, 0))) ∧ Aside0 (wc.heap[gb814]? = some (.cells #[.int .i64 t808, .int .i64 t809, (.slice Ao37 t810.length co37)] 26 (0, 0))) ∧ Aside0 (Below w.heap.size w wc))
              case first =>
                as_aux_lemma =>
                  have H := HC61.out
                  clear HC61
                  by_cases c71 : t822 < 0
                  · rw [if_pos c71] at H
                    have c71b0 : decide (t822 < 0) = true := decide_eq_true c71
                    clear c71
                    (first | rw [c71b0] | (simp only [i64_w, i32_w]; rw [c71b0]) | skip)
                    have H' := Aside0.mk H
                    clear H
                    go_wp2
                    go_meet
                    case rel => exact ⟨_, (true), (by first | rfl | (simp; done) | (simp [*]; done)), H', ⟨by have := HJ11.out; first | omega | exact Nat.le_refl _⟩, ⟨by (with_reducible repeat (first | apply Kd.R_alloc | apply Kd.R_drewN | apply Kd.R_drew)); exact Kd.R_mono HO_802002.out (fun _ hk => ⟨hk.1, hk.2.1⟩)⟩, ⟨by (with_reducible repeat (first | apply Kd.R_alloc | apply Kd.R_drewN | apply Kd.R_drew)); exact Kd.R_mono HO_808002.out (fun _ hk => ⟨hk.1.1, hk.1.2⟩)⟩, ⟨by (with_reducible repeat (first | apply Kd.R_alloc | apply Kd.R_drewN | apply Kd.R_drew)); exact Kd.R_mono HO_815002.out (fun _ hk => ⟨hk.1, hk.2.1⟩)⟩, ⟨by (with_reducible repeat (first | refine blk_drewN ?_ _ | refine blk_drew ?_ | refine blk_alloc ?_ _)); exact BK788.out⟩, ⟨by (with_reducible repeat (first | refine blk_drewN ?_ _ | refine blk_drew ?_ | refine blk_alloc ?_ _)); exact BK801.out⟩, ⟨by (with_reducible repeat (first | refine blk_drewN ?_ _ | refine blk_drew ?_ | refine blk_alloc ?_ _)); exact BK807.out⟩, ⟨by (with_reducible repeat (first | refine blk_drewN ?_ _ | refine blk_drew ?_ | refine blk_alloc ?_ _)); exact BK814.out⟩, ⟨by repeat (first | (with_reducible first | exact HB.out | apply below_alloc | apply pw_below_drewN | apply below_drew1 | refine below_set ?_ GE788.out | refine below_set ?_ GE801.out | refine below_set ?_ GE807.out | refine below_set ?_ GE814.out) | exact HB.out)⟩⟩
                  · rw [if_neg c71] at H
                    have c71b0 : decide (t822 < 0) = false := decide_eq_false c71
                    clear c71
                    (first | rw [c71b0] | (simp only [i64_w, i32_w]; rw [c71b0]) | skip)
                    replace H := Option.bind_eq_some_iff.mp H
                    obtain ⟨t824, A720, H⟩ := H
                    replace H : (if t824 = true then (laws_FnExactLowerSlopes.j1 kj11 a1 t800 (t813 != t800) a0_0 a0_1 l0_2 t795 t796 t797 t808 t809 t810) else (laws_FnExactLowerSlopes.j1 kj11 a1 t800 true a0_0 a0_1 l0_2 t795 t796 t797 t808 t809 t810)) = some r := H
                    have A72 := Aside0.mk A720
                    clear A720
                    by_cases c73 : t824 = true
                    · subst c73
                      have H1 : (laws_FnExactLowerSlopes.j1 kj11 a1 t800 (t813 != t800) a0_0 a0_1 l0_2 t795 t796 t797 t808 t809 t810) = some r := by rw [if_pos rfl] at H; exact H
                      clear H
                      have H := H1
                      clear H1
                      have H' := Aside0.mk H
                      clear H
                      have hnb74 := NB814_788.out
                      have hnc74 := NB788_814.out
                      have hnb75 := NB814_801.out
                      have hnc75 := NB801_814.out
                      have hnb76 := NB814_807.out
                      have hnc76 := NB807_814.out
                      have hcz77_0 : w70.cell? ⟨gb814, 0, none⟩ = some (.int .i64 t808) := (blk_cell BK814.out 0).trans rfl
                      have hcz77_1 : w70.cell? ⟨gb814, 1, none⟩ = some (.int .i64 t809) := (blk_cell BK814.out 1).trans rfl
                      have hcz77_2 : w70.cell? ⟨gb814, 2, none⟩ = some (.slice Ao37 t810.length co37) := (blk_cell BK814.out 2).trans rfl
                      have hfz77_0 := blk_frozen BK814.out 0
                      have hfz77_1 := blk_frozen BK814.out 1
                      have hfz77_2 := blk_frozen BK814.out 2
                      have hnb78 := NB801_788.out
                      have hnc78 := NB788_801.out
                      have hnb79 := NB801_807.out
                      have hnc79 := NB807_801.out
                      have hcz80_0 : w70.cell? ⟨gb801, 0, none⟩ = some (.int .i64 t795) := (blk_cell BK801.out 0).trans rfl
                      have hcz80_1 : w70.cell? ⟨gb801, 1, none⟩ = some (.int .i64 t796) := (blk_cell BK801.out 1).trans rfl
                      have hcz80_2 : w70.cell? ⟨gb801, 2, none⟩ = some (.slice Ao23 t797.length co23) := (blk_cell BK801.out 2).trans rfl
                      have hfz80_0 := blk_frozen BK801.out 0
                      have hfz80_1 := blk_frozen BK801.out 1
                      have hfz80_2 := blk_frozen BK801.out 2
                      go_wp2_with (first | (go_at_call 25; (with_reducible refine (laws_eqField.calls kj11 t808 t809 _ _ t810 t795 t796 _ _ t797 true _ ?side1 ?side2 ?side3 ?side4 A72.out).mono ?_); (case side1 => repeat (first | exact (Kd.R_reads' HO_815002.out).2.2 | (with_reducible refine Kd.C_alloc ?_ _) | (with_reducible refine Kd.C_drewN ?_ _) | (with_reducible refine Kd.C_drew ?_))); (case side2 => exact (Kd.R_reads' HO_815002.out).2.1); (case side3 => repeat (first | exact (Kd.R_reads' HO_802002.out).2.2 | (with_reducible refine Kd.C_alloc ?_ _) | (with_reducible refine Kd.C_drewN ?_ _) | (with_reducible refine Kd.C_drew ?_))); (case side4 => exact (Kd.R_reads' HO_802002.out).2.1); rintro e w81 ⟨rfl, hb⟩; have n0_ := Aside0.mk (Kd.R_below (by (with_reducible repeat (first | apply Kd.R_alloc | apply Kd.R_drewN | apply Kd.R_drew)); exact HO_802002.out) hb); have n1_ := Aside0.mk (Kd.R_below (by (with_reducible repeat (first | apply Kd.R_alloc | apply Kd.R_drewN | apply Kd.R_drew)); exact HO_808002.out) hb); have n2_ := Aside0.mk (Kd.R_below (by (with_reducible repeat (first | apply Kd.R_alloc | apply Kd.R_drewN | apply Kd.R_drew)); exact HO_815002.out) hb); have n3_ := Aside0.mk (Kd.R_below (by (with_reducible repeat (first | apply Kd.R_alloc | apply Kd.R_drewN | apply Kd.R_drew)); exact HO820.out) hb); have n4_ := Aside0.mk (blk_below (g := gb788) (o := .cells #[.int .i64 a0_0, .int .i64 a0_1, .slice A0_2 l0_2.length c0_2] 36 (0, 0)) BK788.out hb); have n5_ := Aside0.mk (blk_below (g := gb801) (o := .cells #[.int .i64 t795, .int .i64 t796, .slice Ao23 t797.length co23] 26 (0, 0)) BK801.out hb); have n6_ := Aside0.mk (blk_below (g := gb807) (o := .cells #[.int .i64 t802, .int .i64 t803, .slice Ao30 t804.length co30] 26 (0, 0)) BK807.out hb); have n7_ := Aside0.mk (blk_below (g := gb814) (o := .cells #[.int .i64 t808, .int .i64 t809, .slice Ao37 t810.length co37] 26 (0, 0)) BK814.out hb); have n8_ := Aside0.mk (below_step (by repeat (first | (with_reducible first | exact HB.out | apply below_alloc | apply pw_below_drewN | apply below_drew1 | refine below_set ?_ GE788.out | refine below_set ?_ GE801.out | refine below_set ?_ GE807.out | refine below_set ?_ GE814.out) | exact HB.out)) hb); clear HO_802002; clear HO_808002; clear HO_815002; clear HO820; clear BK788; clear BK801; clear BK807; clear BK814; clear HB; have HO_802002 := n0_; have HO_808002 := n1_; have HO_815002 := n2_; have HO820 := n3_; have BK788 := n4_; have BK801 := n5_; have BK807 := n6_; have BK814 := n7_; have HB := n8_; clear n0_ n1_ n2_ n3_ n4_ n5_ n6_ n7_ n8_; (try clear hb); (try clear hb2); (try clear hk); (try clear hi)))
                      go_meet
                      case rel => exact ⟨_, ((t813 != t800)), (by first | rfl | (simp; done) | (simp [*]; done)), H', ⟨by have := HJ11.out; first | omega | exact Nat.le_refl _⟩, ⟨by (with_reducible repeat (first | apply Kd.R_alloc | apply Kd.R_drewN | apply Kd.R_drew)); exact Kd.R_mono HO_802002.out (fun _ hk => ⟨hk.1, hk.2.1⟩)⟩, ⟨by (with_reducible repeat (first | apply Kd.R_alloc | apply Kd.R_drewN | apply Kd.R_drew)); exact Kd.R_mono HO_808002.out (fun _ hk => ⟨hk.1.1, hk.1.2⟩)⟩, ⟨by (with_reducible repeat (first | apply Kd.R_alloc | apply Kd.R_drewN | apply Kd.R_drew)); exact Kd.R_mono HO_815002.out (fun _ hk => ⟨hk.1, hk.2.1⟩)⟩, ⟨by (with_reducible repeat (first | refine blk_drewN ?_ _ | refine blk_drew ?_ | refine blk_alloc ?_ _)); exact BK788.out⟩, ⟨by (with_reducible repeat (first | refine blk_drewN ?_ _ | refine blk_drew ?_ | refine blk_alloc ?_ _)); exact BK801.out⟩, ⟨by (with_reducible repeat (first | refine blk_drewN ?_ _ | refine blk_drew ?_ | refine blk_alloc ?_ _)); exact BK807.out⟩, ⟨by (with_reducible repeat (first | refine blk_drewN ?_ _ | refine blk_drew ?_ | refine blk_alloc ?_ _)); exact BK814.out⟩, ⟨by repeat (first | (with_reducible first | exact HB.out | apply below_alloc | apply pw_below_drewN | apply below_drew1 | refine below_set ?_ GE788.out | refine below_set ?_ GE801.out | refine below_set ?_ GE807.out | refine below_set ?_ GE814.out) | exact HB.out)⟩⟩
                    · replace c73 := Bool.eq_false_iff.mpr c73
                      subst c73
                      have H1 : (laws_FnExactLowerSlopes.j1 kj11 a1 t800 true a0_0 a0_1 l0_2 t795 t796 t797 t808 t809 t810) = some r := by rw [if_neg (show ¬ (false = true) by decide)] at H; exact H
                      clear H
                      have H := H1
                      clear H1
                      have H' := Aside0.mk H
                      clear H
                      have hnb82 := NB814_788.out
                      have hnc82 := NB788_814.out
                      have hnb83 := NB814_801.out
                      have hnc83 := NB801_814.out
                      have hnb84 := NB814_807.out
                      have hnc84 := NB807_814.out
                      have hcz85_0 : w70.cell? ⟨gb814, 0, none⟩ = some (.int .i64 t808) := (blk_cell BK814.out 0).trans rfl
                      have hcz85_1 : w70.cell? ⟨gb814, 1, none⟩ = some (.int .i64 t809) := (blk_cell BK814.out 1).trans rfl
                      have hcz85_2 : w70.cell? ⟨gb814, 2, none⟩ = some (.slice Ao37 t810.length co37) := (blk_cell BK814.out 2).trans rfl
                      have hfz85_0 := blk_frozen BK814.out 0
                      have hfz85_1 := blk_frozen BK814.out 1
                      have hfz85_2 := blk_frozen BK814.out 2
                      have hnb86 := NB801_788.out
                      have hnc86 := NB788_801.out
                      have hnb87 := NB801_807.out
                      have hnc87 := NB807_801.out
                      have hcz88_0 : w70.cell? ⟨gb801, 0, none⟩ = some (.int .i64 t795) := (blk_cell BK801.out 0).trans rfl
                      have hcz88_1 : w70.cell? ⟨gb801, 1, none⟩ = some (.int .i64 t796) := (blk_cell BK801.out 1).trans rfl
                      have hcz88_2 : w70.cell? ⟨gb801, 2, none⟩ = some (.slice Ao23 t797.length co23) := (blk_cell BK801.out 2).trans rfl
                      have hfz88_0 := blk_frozen BK801.out 0
                      have hfz88_1 := blk_frozen BK801.out 1
                      have hfz88_2 := blk_frozen BK801.out 2
                      go_wp2_with (first | (go_at_call 25; (with_reducible refine (laws_eqField.calls kj11 t808 t809 _ _ t810 t795 t796 _ _ t797 false _ ?side1 ?side2 ?side3 ?side4 A72.out).mono ?_); (case side1 => repeat (first | exact (Kd.R_reads' HO_815002.out).2.2 | (with_reducible refine Kd.C_alloc ?_ _) | (with_reducible refine Kd.C_drewN ?_ _) | (with_reducible refine Kd.C_drew ?_))); (case side2 => exact (Kd.R_reads' HO_815002.out).2.1); (case side3 => repeat (first | exact (Kd.R_reads' HO_802002.out).2.2 | (with_reducible refine Kd.C_alloc ?_ _) | (with_reducible refine Kd.C_drewN ?_ _) | (with_reducible refine Kd.C_drew ?_))); (case side4 => exact (Kd.R_reads' HO_802002.out).2.1); rintro e w89 ⟨rfl, hb⟩; have n0_ := Aside0.mk (Kd.R_below (by (with_reducible repeat (first | apply Kd.R_alloc | apply Kd.R_drewN | apply Kd.R_drew)); exact HO_802002.out) hb); have n1_ := Aside0.mk (Kd.R_below (by (with_reducible repeat (first | apply Kd.R_alloc | apply Kd.R_drewN | apply Kd.R_drew)); exact HO_808002.out) hb); have n2_ := Aside0.mk (Kd.R_below (by (with_reducible repeat (first | apply Kd.R_alloc | apply Kd.R_drewN | apply Kd.R_drew)); exact HO_815002.out) hb); have n3_ := Aside0.mk (Kd.R_below (by (with_reducible repeat (first | apply Kd.R_alloc | apply Kd.R_drewN | apply Kd.R_drew)); exact HO820.out) hb); have n4_ := Aside0.mk (blk_below (g := gb788) (o := .cells #[.int .i64 a0_0, .int .i64 a0_1, .slice A0_2 l0_2.length c0_2] 36 (0, 0)) BK788.out hb); have n5_ := Aside0.mk (blk_below (g := gb801) (o := .cells #[.int .i64 t795, .int .i64 t796, .slice Ao23 t797.length co23] 26 (0, 0)) BK801.out hb); have n6_ := Aside0.mk (blk_below (g := gb807) (o := .cells #[.int .i64 t802, .int .i64 t803, .slice Ao30 t804.length co30] 26 (0, 0)) BK807.out hb); have n7_ := Aside0.mk (blk_below (g := gb814) (o := .cells #[.int .i64 t808, .int .i64 t809, .slice Ao37 t810.length co37] 26 (0, 0)) BK814.out hb); have n8_ := Aside0.mk (below_step (by repeat (first | (with_reducible first | exact HB.out | apply below_alloc | apply pw_below_drewN | apply below_drew1 | refine below_set ?_ GE788.out | refine below_set ?_ GE801.out | refine below_set ?_ GE807.out | refine below_set ?_ GE814.out) | exact HB.out)) hb); clear HO_802002; clear HO_808002; clear HO_815002; clear HO820; clear BK788; clear BK801; clear BK807; clear BK814; clear HB; have HO_802002 := n0_; have HO_808002 := n1_; have HO_815002 := n2_; have HO820 := n3_; have BK788 := n4_; have BK801 := n5_; have BK807 := n6_; have BK814 := n7_; have HB := n8_; clear n0_ n1_ n2_ n3_ n4_ n5_ n6_ n7_ n8_; (try clear hb); (try clear hb2); (try clear hk); (try clear hi)))
                      go_meet
                      case rel => exact ⟨_, (true), (by first | rfl | (simp; done) | (simp [*]; done)), H', ⟨by have := HJ11.out; first | omega | exact Nat.le_refl _⟩, ⟨by (with_reducible repeat (first | apply Kd.R_alloc | apply Kd.R_drewN | apply Kd.R_drew)); exact Kd.R_mono HO_802002.out (fun _ hk => ⟨hk.1, hk.2.1⟩)⟩, ⟨by (with_reducible repeat (first | apply Kd.R_alloc | apply Kd.R_drewN | apply Kd.R_drew)); exact Kd.R_mono HO_808002.out (fun _ hk => ⟨hk.1.1, hk.1.2⟩)⟩, ⟨by (with_reducible repeat (first | apply Kd.R_alloc | apply Kd.R_drewN | apply Kd.R_drew)); exact Kd.R_mono HO_815002.out (fun _ hk => ⟨hk.1, hk.2.1⟩)⟩, ⟨by (with_reducible repeat (first | refine blk_drewN ?_ _ | refine blk_drew ?_ | refine blk_alloc ?_ _)); exact BK788.out⟩, ⟨by (with_reducible repeat (first | refine blk_drewN ?_ _ | refine blk_drew ?_ | refine blk_alloc ?_ _)); exact BK801.out⟩, ⟨by (with_reducible repeat (first | refine blk_drewN ?_ _ | refine blk_drew ?_ | refine blk_alloc ?_ _)); exact BK807.out⟩, ⟨by (with_reducible repeat (first | refine blk_drewN ?_ _ | refine blk_drew ?_ | refine blk_alloc ?_ _)); exact BK814.out⟩, ⟨by repeat (first | (with_reducible first | exact HB.out | apply below_alloc | apply pw_below_drewN | apply below_drew1 | refine below_set ?_ GE788.out | refine below_set ?_ GE801.out | refine below_set ?_ GE807.out | refine below_set ?_ GE814.out) | exact HB.out)⟩⟩
              case rest =>
                as_aux_lemma =>
                  clear HC61
                  try clear c1
                  try clear c2
                  try clear p2
                  try clear c3
                  try clear c4
                  try clear c4b0
                  try clear c5
                  try clear c6
                  try clear c7
                  try clear c8
                  try clear c13
                  try clear c15
                  try clear c20
                  try clear c21
                  try clear c22
                  try clear c25
                  try clear c27
                  try clear c28
                  try clear c33
                  try clear c34
                  try clear c35
                  try clear c39
                  try clear c40
                  try clear c41
                  try clear c42
                  try clear c44
                  try clear c45
                  try clear c48
                  try clear c49
                  try clear c50
                  try clear c52
                  try clear c53
                  try clear c56
                  try clear c59
                  try clear c66
                  try clear c67
                  try clear c68
                  try clear c71
                  try clear c71b0
                  try clear c73
                  try clear c74
                  try clear c75
                  try clear c76
                  try clear c78
                  try clear c79
                  try clear c82
                  try clear c83
                  try clear c84
                  try clear c86
                  try clear c87
                  try clear hcz14_0
                  try clear hcz14_1
                  try clear hcz14_2
                  try clear hcz16_0
                  try clear hcz16_1
                  try clear hcz16_2
                  try clear hcz22_0
                  try clear hcz22_1
                  try clear hcz22_2
                  try clear hcz24_0
                  try clear hcz24_1
                  try clear hcz24_2
                  try clear hcz29_0
                  try clear hcz29_1
                  try clear hcz29_2
                  try clear hcz36_0
                  try clear hcz36_1
                  try clear hcz36_2
                  try clear hcz43_0
                  try clear hcz43_1
                  try clear hcz43_2
                  try clear hcz46_0
                  try clear hcz46_1
                  try clear hcz46_2
                  try clear hcz51_0
                  try clear hcz51_1
                  try clear hcz51_2
                  try clear hcz54_0
                  try clear hcz54_1
                  try clear hcz54_2
                  try clear hcz69_0
                  try clear hcz69_1
                  try clear hcz69_2
                  try clear hcz6_0
                  try clear hcz6_1
                  try clear hcz6_2
                  try clear hcz77_0
                  try clear hcz77_1
                  try clear hcz77_2
                  try clear hcz80_0
                  try clear hcz80_1
                  try clear hcz80_2
                  try clear hcz85_0
                  try clear hcz85_1
                  try clear hcz85_2
                  try clear hcz88_0
                  try clear hcz88_1
                  try clear hcz88_2
                  try clear hfz14_0
                  try clear hfz14_1
                  try clear hfz14_2
                  try clear hfz16_0
                  try clear hfz16_1
                  try clear hfz16_2
                  try clear hfz22_0
                  try clear hfz22_1
                  try clear hfz22_2
                  try clear hfz24_0
                  try clear hfz24_1
                  try clear hfz24_2
                  try clear hfz29_0
                  try clear hfz29_1
                  try clear hfz29_2
                  try clear hfz36_0
                  try clear hfz36_1
                  try clear hfz36_2
                  try clear hfz43_0
                  try clear hfz43_1
                  try clear hfz43_2
                  try clear hfz46_0
                  try clear hfz46_1
                  try clear hfz46_2
                  try clear hfz51_0
                  try clear hfz51_1
                  try clear hfz51_2
                  try clear hfz54_0
                  try clear hfz54_1
                  try clear hfz54_2
                  try clear hfz69_0
                  try clear hfz69_1
                  try clear hfz69_2
                  try clear hfz6_0
                  try clear hfz6_1
                  try clear hfz6_2
                  try clear hfz77_0
                  try clear hfz77_1
                  try clear hfz77_2
                  try clear hfz80_0
                  try clear hfz80_1
                  try clear hfz80_2
                  try clear hfz85_0
                  try clear hfz85_1
                  try clear hfz85_2
                  try clear hfz88_0
                  try clear hfz88_1
                  try clear hfz88_2
                  try clear p2
                  obtain ⟨kq, x65_60, rfl, HA, HJ60, HO_802002, HO_808002, HO_815002, BK788, BK801, BK807, BK814, HB⟩ := hcut
                  have hl808002_60 := (Kd.R_reads' HO_808002.out).1
                  rw [hl808002_60] at HO_808002
                  (try simp only [hl808002_60])
                  (try simp only [hl808002_60] at BK788)
                  (try simp only [hl808002_60] at BK801)
                  (try simp only [hl808002_60] at BK807)
                  (try simp only [hl808002_60] at BK814)
                  (try simp only [hl808002_60] at HO_802002)
                  (try simp only [hl808002_60] at HO_815002)
                  cases kq with
                  | zero => exact absurd HA.out (by simp [laws_FnExactLowerSlopes.j1])
                  | succ kj60 =>
                    have H := HA.out
                    clear HA
                    simp only [laws_FnExactLowerSlopes.j1] at H
                    by_cases c90 : x65_60 = true
                    · subst c90
                      have H1 : (some false) = some r := by rw [if_pos rfl] at H; exact H
                      exact absurd ((Option.some.inj H1).trans hrt_) (by decide)
                    · replace c90 := Bool.eq_false_iff.mpr c90
                      subst c90
                      have H1 : ((laws_markField.f kj60 t808 t809 t810 1).bind fun bt825 => ((laws_heldField.f kj60 t808 t809 bt825.2 1).bind fun t827 => (if t827 < 0 then (some false) else (if t827 = bt825.1 then ((laws_toField.f kj60 a0_0 a0_1 l0_2).bind fun bt828 => ((impl_LowerSlopes.f kj60 bt828.1 bt828.2.1 bt828.2.2 a1).bind fun bt833 => ((laws_eqField.f kj60 bt833.1 bt833.2.1 bt833.2.2.1 t795 t796 t797).bind fun t840 => (if t840 = true then (laws_FnExactLowerSlopes.j2 kj60 bt825.1 (bt833.2.2.2 != t800) t808 t809 bt825.2) else (laws_FnExactLowerSlopes.j2 kj60 bt825.1 true t808 t809 bt825.2))))) else (some false))))) = some r := by rw [if_neg (show ¬ (false = true) by decide)] at H; exact H
                      clear H
                      have H := H1
                      clear H1
                      replace H := Option.bind_eq_some_iff.mp H
                      obtain ⟨⟨t825, t826⟩, A910, H⟩ := H
                      replace H : ((laws_heldField.f kj60 t808 t809 t826 1).bind fun t827 => (if t827 < 0 then (some false) else (if t827 = t825 then ((laws_toField.f kj60 a0_0 a0_1 l0_2).bind fun bt828 => ((impl_LowerSlopes.f kj60 bt828.1 bt828.2.1 bt828.2.2 a1).bind fun bt833 => ((laws_eqField.f kj60 bt833.1 bt833.2.1 bt833.2.2.1 t795 t796 t797).bind fun t840 => (if t840 = true then (laws_FnExactLowerSlopes.j2 kj60 t825 (bt833.2.2.2 != t800) t808 t809 t826) else (laws_FnExactLowerSlopes.j2 kj60 t825 true t808 t809 t826))))) else (some false)))) = some r := H
                      have A91 := Aside0.mk A910
                      clear A910
                      replace H := Option.bind_eq_some_iff.mp H
                      obtain ⟨t827, A920, H⟩ := H
                      replace H : (if t827 < 0 then (some false) else (if t827 = t825 then ((laws_toField.f kj60 a0_0 a0_1 l0_2).bind fun bt828 => ((impl_LowerSlopes.f kj60 bt828.1 bt828.2.1 bt828.2.2 a1).bind fun bt833 => ((laws_eqField.f kj60 bt833.1 bt833.2.1 bt833.2.2.1 t795 t796 t797).bind fun t840 => (if t840 = true then (laws_FnExactLowerSlopes.j2 kj60 t825 (bt833.2.2.2 != t800) t808 t809 t826) else (laws_FnExactLowerSlopes.j2 kj60 t825 true t808 t809 t826))))) else (some false))) = some r := H
                      have A92 := Aside0.mk A920
                      clear A920
                      by_cases c93 : t827 < 0
                      · rw [if_pos c93] at H
                        have c93b0 : decide (t827 < 0) = true := decide_eq_true c93
                        clear c93
                        obtain rfl := Option.some.inj H
                        have hnb94 := NB814_788.out
                        have hnc94 := NB788_814.out
                        have hnb95 := NB814_801.out
                        have hnc95 := NB801_814.out
                        have hnb96 := NB814_807.out
                        have hnc96 := NB807_814.out
                        have hcz97_0 : wc.cell? ⟨gb814, 0, none⟩ = some (.int .i64 t808) := (blk_cell BK814.out 0).trans rfl
                        have hcz97_1 : wc.cell? ⟨gb814, 1, none⟩ = some (.int .i64 t809) := (blk_cell BK814.out 1).trans rfl
                        have hcz97_2 : wc.cell? ⟨gb814, 2, none⟩ = some (.slice Ao37 t810.length co37) := (blk_cell BK814.out 2).trans rfl
                        have hfz97_0 := blk_frozen BK814.out 0
                        have hfz97_1 := blk_frozen BK814.out 1
                        have hfz97_2 := blk_frozen BK814.out 2
                        go_wp2_with (first | ((with_reducible refine gate_callee (f := 27) rfl ?_); refine goesL_ (some 68) rfl rfl Try.func27 (by kernel_rfl) rfl #[.agg #[.int .i64 t808, .int .i64 t809, .slice Ao37 t810.length co37], .int .i64 1] rfl (by (try simp only [List.map_toArray, List.map_cons, List.map_nil]); first | done | rfl | (simp only [List.length_drop, List.length_take]; rfl)) ?_; (with_reducible refine (laws_markField.calls kj60 t808 t809 (fun k_ => some k_ = (.slice Ao37 t810.length co37 : Value).ownBlock) (.slice Ao37 t810.length co37) t810 1 t825 t826 w _ ?side1 ?side2 A91.out).mono ?_); (case side1 => repeat (first | (with_reducible first | exact HB.out | apply below_alloc | apply pw_below_drewN | apply below_drew1 | refine below_set ?_ GE788.out | refine below_set ?_ GE801.out | refine below_set ?_ GE807.out | refine below_set ?_ GE814.out) | exact HB.out)); (case side2 => exact Kd.R_tight rfl HO_815002.out); rintro e w98 ⟨rfl, hy0, hb, hkp⟩; refine ⟨_, rfl, ?_⟩; have n0_ := Aside0.mk (Kd.R_mono (ok' := fun k_ => some k_ ≠ (.slice Ao30 t823.length co30 : Value).ownBlock ∧ some k_ ≠ (.slice Ao37 t810.length co37 : Value).ownBlock) (Kd.R_keptB (HO_802002.out) hkp (fun k_ hk_ hs_ => (hk_.2) hs_)) (fun k_ hk_ => ⟨hk_.1.1, hk_.1.2⟩)); have n1_ := Aside0.mk (Kd.R_mono (ok' := fun k_ => some k_ ≠ (.slice Ao23 t797.length co23 : Value).ownBlock ∧ some k_ ≠ (.slice Ao37 t810.length co37 : Value).ownBlock) (Kd.R_keptB (HO_808002.out) hkp (fun k_ hk_ hs_ => (hk_.2) hs_)) (fun k_ hk_ => ⟨hk_.1.1, hk_.1.2⟩)); have n2_ := Aside0.mk (Kd.R_reok rfl hy0 (fun k_ e_ => HO_815002.out.1 k_ e_)); have n3_ := Aside0.mk (blk_kept BK788.out hkp (fun hs_ => (fun e_ => (Kd.R_ne HO_815002.out BK788.out (by decide)) e_) hs_)); have n4_ := Aside0.mk (blk_kept BK801.out hkp (fun hs_ => (fun e_ => (Kd.R_ne HO_815002.out BK801.out (by decide)) e_) hs_)); have n5_ := Aside0.mk (blk_kept BK807.out hkp (fun hs_ => (fun e_ => (Kd.R_ne HO_815002.out BK807.out (by decide)) e_) hs_)); have n6_ := Aside0.mk (blk_kept BK814.out hkp (fun hs_ => (fun e_ => (Kd.R_ne HO_815002.out BK814.out (by decide)) e_) hs_)); have n7_ := Aside0.mk (hb); clear HO_802002; clear HO_808002; clear HO_815002; clear BK788; clear BK801; clear BK807; clear BK814; clear HB; have HO_802002 := n0_; have HO_808002 := n1_; have HO_815002 := n2_; have BK788 := n3_; have BK801 := n4_; have BK807 := n5_; have BK814 := n6_; have HB := n7_; clear n0_ n1_ n2_ n3_ n4_ n5_ n6_ n7_; (try clear hb); (try clear hkp); (try clear hy0); have hcz99_0 : w98.cell? ⟨gb814, 0, none⟩ = some (.int .i64 t808) := (blk_cell BK814.out 0).trans rfl; have hcz99_1 : w98.cell? ⟨gb814, 1, none⟩ = some (.int .i64 t809) := (blk_cell BK814.out 1).trans rfl; have hcz99_2 : w98.cell? ⟨gb814, 2, none⟩ = some (.slice Ao37 t810.length co37) := (blk_cell BK814.out 2).trans rfl; have hfz99_0 := blk_frozen BK814.out 0; have hfz99_1 := blk_frozen BK814.out 1; have hfz99_2 := blk_frozen BK814.out 2) | ((with_reducible refine gate_callee (f := 29) rfl ?_); refine goesL_ (some 71) rfl rfl Try.func29 (by kernel_rfl) rfl #[.agg #[.int .i64 t808, .int .i64 t809, .slice Ao37 t826.length co37], .int .i64 1] rfl (by (try simp only [List.map_toArray, List.map_cons, List.map_nil]); first | done | (rw [show t826.length = t810.length from (Kd.R_reads' HO_815002.out).1.symm] <;> rfl) | rfl | (simp only [List.length_drop, List.length_take]; rfl)) ?_; (with_reducible refine (laws_heldField.calls kj60 t808 t809 _ _ t826 1 t827 _ ?side1 ?side2 A92.out).mono ?_); (case side1 => repeat (first | exact (Kd.R_reads' HO_815002.out).2.2 | (with_reducible refine Kd.C_alloc ?_ _) | (with_reducible refine Kd.C_drewN ?_ _) | (with_reducible refine Kd.C_drew ?_))); (case side2 => rw [show t826.length = t810.length from (Kd.R_reads' HO_815002.out).1.symm]; exact (Kd.R_reads' HO_815002.out).2.1); rintro e w100 ⟨rfl, hb⟩; refine ⟨_, rfl, ?_⟩; have n0_ := Aside0.mk (Kd.R_below (by (with_reducible repeat (first | apply Kd.R_alloc | apply Kd.R_drewN | apply Kd.R_drew)); exact HO_802002.out) hb); have n1_ := Aside0.mk (Kd.R_below (by (with_reducible repeat (first | apply Kd.R_alloc | apply Kd.R_drewN | apply Kd.R_drew)); exact HO_808002.out) hb); have n2_ := Aside0.mk (Kd.R_below (by (with_reducible repeat (first | apply Kd.R_alloc | apply Kd.R_drewN | apply Kd.R_drew)); exact HO_815002.out) hb); have n3_ := Aside0.mk (blk_below (g := gb788) (o := .cells #[.int .i64 a0_0, .int .i64 a0_1, .slice A0_2 l0_2.length c0_2] 36 (0, 0)) BK788.out hb); have n4_ := Aside0.mk (blk_below (g := gb801) (o := .cells #[.int .i64 t795, .int .i64 t796, .slice Ao23 t797.length co23] 26 (0, 0)) BK801.out hb); have n5_ := Aside0.mk (blk_below (g := gb807) (o := .cells #[.int .i64 t802, .int .i64 t803, .slice Ao30 t823.length co30] 26 (0, 0)) BK807.out hb); have n6_ := Aside0.mk (blk_below (g := gb814) (o := .cells #[.int .i64 t808, .int .i64 t809, .slice Ao37 t810.length co37] 26 (0, 0)) BK814.out hb); have n7_ := Aside0.mk (below_step (by repeat (first | (with_reducible first | exact HB.out | apply below_alloc | apply pw_below_drewN | apply below_drew1 | refine below_set ?_ GE788.out | refine below_set ?_ GE801.out | refine below_set ?_ GE807.out | refine below_set ?_ GE814.out) | exact HB.out)) hb); clear HO_802002; clear HO_808002; clear HO_815002; clear BK788; clear BK801; clear BK807; clear BK814; clear HB; have HO_802002 := n0_; have HO_808002 := n1_; have HO_815002 := n2_; have BK788 := n3_; have BK801 := n4_; have BK807 := n5_; have BK814 := n6_; have HB := n7_; clear n0_ n1_ n2_ n3_ n4_ n5_ n6_ n7_; (try clear hb); (try clear hb2); (try clear hk); (try clear hi)))
                        go_ret
                        exact ⟨by first | rfl | (simp [errW_none, errW_some] <;> rfl) | (simp [*, errW_none, errW_some] <;> rfl), by repeat (first | (with_reducible first | exact HB.out | apply below_alloc | apply pw_below_drewN | apply below_drew1 | refine below_set ?_ GE788.out | refine below_set ?_ GE801.out | refine below_set ?_ GE807.out | refine below_set ?_ GE814.out) | exact HB.out)⟩
                      · rw [if_neg c93] at H
                        have c93b0 : decide (t827 < 0) = false := decide_eq_false c93
                        clear c93
                        by_cases c101 : t827 = t825
                        · rw [if_pos c101] at H
                          have c101b0 : (t827 == t825) = true := beq_iff_eq.mpr c101
                          have c101b1 : (t827 != t825) = false := bne_eq_false_iff_eq.mpr c101
                          clear c101
                          replace H := Option.bind_eq_some_iff.mp H
                          obtain ⟨⟨t828, t829, t830⟩, A1020, H⟩ := H
                          replace H : ((impl_LowerSlopes.f kj60 t828 t829 t830 a1).bind fun bt833 => ((laws_eqField.f kj60 bt833.1 bt833.2.1 bt833.2.2.1 t795 t796 t797).bind fun t840 => (if t840 = true then (laws_FnExactLowerSlopes.j2 kj60 t825 (bt833.2.2.2 != t800) t808 t809 t826) else (laws_FnExactLowerSlopes.j2 kj60 t825 true t808 t809 t826)))) = some r := H
                          have A102 := Aside0.mk A1020
                          clear A1020
                          replace H := Option.bind_eq_some_iff.mp H
                          obtain ⟨⟨t833, t834, t835, t838⟩, A1030, H⟩ := H
                          replace H : ((laws_eqField.f kj60 t833 t834 t835 t795 t796 t797).bind fun t840 => (if t840 = true then (laws_FnExactLowerSlopes.j2 kj60 t825 (t838 != t800) t808 t809 t826) else (laws_FnExactLowerSlopes.j2 kj60 t825 true t808 t809 t826))) = some r := H
                          have A103 := Aside0.mk A1030
                          clear A1030
                          have HC104 := Aside0.mk H
                          clear H
                          have hnb105 := NB814_788.out
                          have hnc105 := NB788_814.out
                          have hnb106 := NB814_801.out
                          have hnc106 := NB801_814.out
                          have hnb107 := NB814_807.out
                          have hnc107 := NB807_814.out
                          have hcz108_0 : wc.cell? ⟨gb814, 0, none⟩ = some (.int .i64 t808) := (blk_cell BK814.out 0).trans rfl
                          have hcz108_1 : wc.cell? ⟨gb814, 1, none⟩ = some (.int .i64 t809) := (blk_cell BK814.out 1).trans rfl
                          have hcz108_2 : wc.cell? ⟨gb814, 2, none⟩ = some (.slice Ao37 t810.length co37) := (blk_cell BK814.out 2).trans rfl
                          have hfz108_0 := blk_frozen BK814.out 0
                          have hfz108_1 := blk_frozen BK814.out 1
                          have hfz108_2 := blk_frozen BK814.out 2
                          go_upto_region 25 with (first | ((with_reducible refine gate_callee (f := 27) rfl ?_); refine goesL_ (some 68) rfl rfl Try.func27 (by kernel_rfl) rfl #[.agg #[.int .i64 t808, .int .i64 t809, .slice Ao37 t810.length co37], .int .i64 1] rfl (by (try simp only [List.map_toArray, List.map_cons, List.map_nil]); first | done | rfl | (simp only [List.length_drop, List.length_take]; rfl)) ?_; (with_reducible refine (laws_markField.calls kj60 t808 t809 (fun k_ => some k_ = (.slice Ao37 t810.length co37 : Value).ownBlock) (.slice Ao37 t810.length co37) t810 1 t825 t826 w _ ?side1 ?side2 A91.out).mono ?_); (case side1 => repeat (first | (with_reducible first | exact HB.out | apply below_alloc | apply pw_below_drewN | apply below_drew1 | refine below_set ?_ GE788.out | refine below_set ?_ GE801.out | refine below_set ?_ GE807.out | refine below_set ?_ GE814.out) | exact HB.out)); (case side2 => exact Kd.R_tight rfl HO_815002.out); rintro e w109 ⟨rfl, hy0, hb, hkp⟩; refine ⟨_, rfl, ?_⟩; have n0_ := Aside0.mk (Kd.R_mono (ok' := fun k_ => some k_ ≠ (.slice Ao30 t823.length co30 : Value).ownBlock ∧ some k_ ≠ (.slice Ao37 t810.length co37 : Value).ownBlock) (Kd.R_keptB (HO_802002.out) hkp (fun k_ hk_ hs_ => (hk_.2) hs_)) (fun k_ hk_ => ⟨hk_.1.1, hk_.1.2⟩)); have n1_ := Aside0.mk (Kd.R_mono (ok' := fun k_ => some k_ ≠ (.slice Ao23 t797.length co23 : Value).ownBlock ∧ some k_ ≠ (.slice Ao37 t810.length co37 : Value).ownBlock) (Kd.R_keptB (HO_808002.out) hkp (fun k_ hk_ hs_ => (hk_.2) hs_)) (fun k_ hk_ => ⟨hk_.1.1, hk_.1.2⟩)); have n2_ := Aside0.mk (Kd.R_reok rfl hy0 (fun k_ e_ => HO_815002.out.1 k_ e_)); have n3_ := Aside0.mk (blk_kept BK788.out hkp (fun hs_ => (fun e_ => (Kd.R_ne HO_815002.out BK788.out (by decide)) e_) hs_)); have n4_ := Aside0.mk (blk_kept BK801.out hkp (fun hs_ => (fun e_ => (Kd.R_ne HO_815002.out BK801.out (by decide)) e_) hs_)); have n5_ := Aside0.mk (blk_kept BK807.out hkp (fun hs_ => (fun e_ => (Kd.R_ne HO_815002.out BK807.out (by decide)) e_) hs_)); have n6_ := Aside0.mk (blk_kept BK814.out hkp (fun hs_ => (fun e_ => (Kd.R_ne HO_815002.out BK814.out (by decide)) e_) hs_)); have n7_ := Aside0.mk (hb); clear HO_802002; clear HO_808002; clear HO_815002; clear BK788; clear BK801; clear BK807; clear BK814; clear HB; have HO_802002 := n0_; have HO_808002 := n1_; have HO_815002 := n2_; have BK788 := n3_; have BK801 := n4_; have BK807 := n5_; have BK814 := n6_; have HB := n7_; clear n0_ n1_ n2_ n3_ n4_ n5_ n6_ n7_; (try clear hb); (try clear hkp); (try clear hy0); have hcz110_0 : w109.cell? ⟨gb814, 0, none⟩ = some (.int .i64 t808) := (blk_cell BK814.out 0).trans rfl; have hcz110_1 : w109.cell? ⟨gb814, 1, none⟩ = some (.int .i64 t809) := (blk_cell BK814.out 1).trans rfl; have hcz110_2 : w109.cell? ⟨gb814, 2, none⟩ = some (.slice Ao37 t810.length co37) := (blk_cell BK814.out 2).trans rfl; have hfz110_0 := blk_frozen BK814.out 0; have hfz110_1 := blk_frozen BK814.out 1; have hfz110_2 := blk_frozen BK814.out 2) | ((with_reducible refine gate_callee (f := 29) rfl ?_); refine goesL_ (some 71) rfl rfl Try.func29 (by kernel_rfl) rfl #[.agg #[.int .i64 t808, .int .i64 t809, .slice Ao37 t826.length co37], .int .i64 1] rfl (by (try simp only [List.map_toArray, List.map_cons, List.map_nil]); first | done | (rw [show t826.length = t810.length from (Kd.R_reads' HO_815002.out).1.symm] <;> rfl) | rfl | (simp only [List.length_drop, List.length_take]; rfl)) ?_; (with_reducible refine (laws_heldField.calls kj60 t808 t809 _ _ t826 1 t827 _ ?side1 ?side2 A92.out).mono ?_); (case side1 => repeat (first | exact (Kd.R_reads' HO_815002.out).2.2 | (with_reducible refine Kd.C_alloc ?_ _) | (with_reducible refine Kd.C_drewN ?_ _) | (with_reducible refine Kd.C_drew ?_))); (case side2 => rw [show t826.length = t810.length from (Kd.R_reads' HO_815002.out).1.symm]; exact (Kd.R_reads' HO_815002.out).2.1); rintro e w111 ⟨rfl, hb⟩; refine ⟨_, rfl, ?_⟩; have n0_ := Aside0.mk (Kd.R_below (by (with_reducible repeat (first | apply Kd.R_alloc | apply Kd.R_drewN | apply Kd.R_drew)); exact HO_802002.out) hb); have n1_ := Aside0.mk (Kd.R_below (by (with_reducible repeat (first | apply Kd.R_alloc | apply Kd.R_drewN | apply Kd.R_drew)); exact HO_808002.out) hb); have n2_ := Aside0.mk (Kd.R_below (by (with_reducible repeat (first | apply Kd.R_alloc | apply Kd.R_drewN | apply Kd.R_drew)); exact HO_815002.out) hb); have n3_ := Aside0.mk (blk_below (g := gb788) (o := .cells #[.int .i64 a0_0, .int .i64 a0_1, .slice A0_2 l0_2.length c0_2] 36 (0, 0)) BK788.out hb); have n4_ := Aside0.mk (blk_below (g := gb801) (o := .cells #[.int .i64 t795, .int .i64 t796, .slice Ao23 t797.length co23] 26 (0, 0)) BK801.out hb); have n5_ := Aside0.mk (blk_below (g := gb807) (o := .cells #[.int .i64 t802, .int .i64 t803, .slice Ao30 t823.length co30] 26 (0, 0)) BK807.out hb); have n6_ := Aside0.mk (blk_below (g := gb814) (o := .cells #[.int .i64 t808, .int .i64 t809, .slice Ao37 t810.length co37] 26 (0, 0)) BK814.out hb); have n7_ := Aside0.mk (below_step (by repeat (first | (with_reducible first | exact HB.out | apply below_alloc | apply pw_below_drewN | apply below_drew1 | refine below_set ?_ GE788.out | refine below_set ?_ GE801.out | refine below_set ?_ GE807.out | refine below_set ?_ GE814.out) | exact HB.out)) hb); clear HO_802002; clear HO_808002; clear HO_815002; clear BK788; clear BK801; clear BK807; clear BK814; clear HB; have HO_802002 := n0_; have HO_808002 := n1_; have HO_815002 := n2_; have BK788 := n3_; have BK801 := n4_; have BK807 := n5_; have BK814 := n6_; have HB := n7_; clear n0_ n1_ n2_ n3_ n4_ n5_ n6_ n7_; (try clear hb); (try clear hb2); (try clear hk); (try clear hi); have hnb112 := NB788_801.out; have hnc112 := NB801_788.out; have hnb113 := NB788_807.out; have hnc113 := NB807_788.out; have hcz114_0 : w111.cell? ⟨gb788, 0, none⟩ = some (.int .i64 a0_0) := (blk_cell BK788.out 0).trans rfl; have hcz114_1 : w111.cell? ⟨gb788, 1, none⟩ = some (.int .i64 a0_1) := (blk_cell BK788.out 1).trans rfl; have hcz114_2 : w111.cell? ⟨gb788, 2, none⟩ = some (.slice A0_2 l0_2.length c0_2) := (blk_cell BK788.out 2).trans rfl; have hfz114_0 := blk_frozen BK788.out 0; have hfz114_1 := blk_frozen BK788.out 1; have hfz114_2 := blk_frozen BK788.out 2) | ((with_reducible refine gate_callee (f := 22) rfl ?_); refine goesL_ (some 79) rfl rfl Try.func22 (by kernel_rfl) rfl #[.agg #[.int .i64 a0_0, .int .i64 a0_1, .slice A0_2 l0_2.length c0_2]] rfl (by (try simp only [List.map_toArray, List.map_cons, List.map_nil]); first | done | rfl | (simp only [List.length_drop, List.length_take]; rfl)) ?_; (with_reducible refine (laws_toField.calls kj60 a0_0 a0_1 _ _ l0_2 t828 t829 t830 _ ?side1 ?side2 A102.out).mono ?_); (case side1 => repeat (first | exact (Kd.C_below HR0_2.out HB.out) | (with_reducible refine Kd.C_alloc ?_ _) | (with_reducible refine Kd.C_drewN ?_ _) | (with_reducible refine Kd.C_drew ?_))); (case side2 => exact HC0_2.out); rintro e w115 ⟨v831, rfl, ho0, hb⟩; refine ⟨_, rfl, ?_⟩; have n0_ := Aside0.mk (Kd.R_elder' (by (with_reducible repeat (first | apply Kd.R_alloc | apply Kd.R_drewN | apply Kd.R_drew)); exact HO_802002.out) (Kd.R_base ho0) hb); have n1_ := Aside0.mk (Kd.R_elder' (by (with_reducible repeat (first | apply Kd.R_alloc | apply Kd.R_drewN | apply Kd.R_drew)); exact HO_808002.out) (Kd.R_base ho0) hb); have n2_ := Aside0.mk (Kd.R_elder' (by (with_reducible repeat (first | apply Kd.R_alloc | apply Kd.R_drewN | apply Kd.R_drew)); exact HO_815002.out) (Kd.R_base ho0) hb); have n3_ := Aside0.mk (Kd.R_lower (Kd.R_new' (Kd.R_new' (Kd.R_new' ho0 (Kd.R_lt (by (with_reducible repeat (first | apply Kd.R_alloc | apply Kd.R_drewN | apply Kd.R_drew)); exact HO_802002.out))) (Kd.R_lt (by (with_reducible repeat (first | apply Kd.R_alloc | apply Kd.R_drewN | apply Kd.R_drew)); exact HO_808002.out))) (Kd.R_lt (by (with_reducible repeat (first | apply Kd.R_alloc | apply Kd.R_drewN | apply Kd.R_drew)); exact HO_815002.out))) (below_size (by repeat (first | (with_reducible first | exact HB.out | apply below_alloc | apply pw_below_drewN | apply below_drew1 | refine below_set ?_ GE788.out | refine below_set ?_ GE801.out | refine below_set ?_ GE807.out | refine below_set ?_ GE814.out) | exact HB.out)))); have n4_ := Aside0.mk (blk_below (g := gb788) (o := .cells #[.int .i64 a0_0, .int .i64 a0_1, .slice A0_2 l0_2.length c0_2] 36 (0, 0)) BK788.out hb); have n5_ := Aside0.mk (blk_below (g := gb801) (o := .cells #[.int .i64 t795, .int .i64 t796, .slice Ao23 t797.length co23] 26 (0, 0)) BK801.out hb); have n6_ := Aside0.mk (blk_below (g := gb807) (o := .cells #[.int .i64 t802, .int .i64 t803, .slice Ao30 t823.length co30] 26 (0, 0)) BK807.out hb); have n7_ := Aside0.mk (blk_below (g := gb814) (o := .cells #[.int .i64 t808, .int .i64 t809, .slice Ao37 t810.length co37] 26 (0, 0)) BK814.out hb); have n8_ := Aside0.mk (below_step (by repeat (first | (with_reducible first | exact HB.out | apply below_alloc | apply pw_below_drewN | apply below_drew1 | refine below_set ?_ GE788.out | refine below_set ?_ GE801.out | refine below_set ?_ GE807.out | refine below_set ?_ GE814.out) | exact HB.out)) hb); clear HO_802002; clear HO_808002; clear HO_815002; clear BK788; clear BK801; clear BK807; clear BK814; clear HB; have HO_802002 := n0_; have HO_808002 := n1_; have HO_815002 := n2_; have HO832 := n3_; have BK788 := n4_; have BK801 := n5_; have BK807 := n6_; have BK814 := n7_; have HB := n8_; clear n0_ n1_ n2_ n3_ n4_ n5_ n6_ n7_ n8_; (try clear hb); (try clear hb2); (try clear hk); (try clear hi); (try clear ho0); obtain ⟨Ao116, co116, eo116⟩ := Kd.R_slice HO832.out; subst eo116) | ((with_reducible refine gate_callee (f := 13) rfl ?_); refine goesL_ (some 81) rfl rfl Try.func13 (by kernel_rfl) rfl #[.agg #[.int .i64 t828, .int .i64 t829, .slice Ao116 t830.length co116], .int .i64 a1] rfl (by (try simp only [List.map_toArray, List.map_cons, List.map_nil]); first | done | rfl | (simp only [List.length_drop, List.length_take]; rfl)) ?_; (with_reducible refine (impl_LowerSlopes.calls kj60 t828 t829 _ _ t830 a1 t833 t834 t835 t838 _ ?side1 ?side2 A103.out).mono ?_); (case side1 => repeat (first | exact (Kd.R_reads' HO832.out).2.2 | (with_reducible refine Kd.C_alloc ?_ _) | (with_reducible refine Kd.C_drewN ?_ _) | (with_reducible refine Kd.C_drew ?_))); (case side2 => exact (Kd.R_reads' HO832.out).2.1); rintro e w117 ⟨v836, rfl, ho0, hb⟩; refine ⟨_, rfl, ?_⟩; have n0_ := Aside0.mk (Kd.R_elder' (by (with_reducible repeat (first | apply Kd.R_alloc | apply Kd.R_drewN | apply Kd.R_drew)); exact HO_802002.out) (Kd.R_base ho0) hb); have n1_ := Aside0.mk (Kd.R_elder' (by (with_reducible repeat (first | apply Kd.R_alloc | apply Kd.R_drewN | apply Kd.R_drew)); exact HO_808002.out) (Kd.R_base ho0) hb); have n2_ := Aside0.mk (Kd.R_elder' (by (with_reducible repeat (first | apply Kd.R_alloc | apply Kd.R_drewN | apply Kd.R_drew)); exact HO_815002.out) (Kd.R_base ho0) hb); have n3_ := Aside0.mk (Kd.R_elder' (by (with_reducible repeat (first | apply Kd.R_alloc | apply Kd.R_drewN | apply Kd.R_drew)); exact HO832.out) (Kd.R_base ho0) hb); have n4_ := Aside0.mk (Kd.R_lower (Kd.R_new' (Kd.R_new' (Kd.R_new' (Kd.R_new' ho0 (Kd.R_lt (by (with_reducible repeat (first | apply Kd.R_alloc | apply Kd.R_drewN | apply Kd.R_drew)); exact HO_802002.out))) (Kd.R_lt (by (with_reducible repeat (first | apply Kd.R_alloc | apply Kd.R_drewN | apply Kd.R_drew)); exact HO_808002.out))) (Kd.R_lt (by (with_reducible repeat (first | apply Kd.R_alloc | apply Kd.R_drewN | apply Kd.R_drew)); exact HO_815002.out))) (Kd.R_lt (by (with_reducible repeat (first | apply Kd.R_alloc | apply Kd.R_drewN | apply Kd.R_drew)); exact HO832.out))) (below_size (by repeat (first | (with_reducible first | exact HB.out | apply below_alloc | apply pw_below_drewN | apply below_drew1 | refine below_set ?_ GE788.out | refine below_set ?_ GE801.out | refine below_set ?_ GE807.out | refine below_set ?_ GE814.out) | exact HB.out)))); have n5_ := Aside0.mk (blk_below (g := gb788) (o := .cells #[.int .i64 a0_0, .int .i64 a0_1, .slice A0_2 l0_2.length c0_2] 36 (0, 0)) BK788.out hb); have n6_ := Aside0.mk (blk_below (g := gb801) (o := .cells #[.int .i64 t795, .int .i64 t796, .slice Ao23 t797.length co23] 26 (0, 0)) BK801.out hb); have n7_ := Aside0.mk (blk_below (g := gb807) (o := .cells #[.int .i64 t802, .int .i64 t803, .slice Ao30 t823.length co30] 26 (0, 0)) BK807.out hb); have n8_ := Aside0.mk (blk_below (g := gb814) (o := .cells #[.int .i64 t808, .int .i64 t809, .slice Ao37 t810.length co37] 26 (0, 0)) BK814.out hb); have n9_ := Aside0.mk (below_step (by repeat (first | (with_reducible first | exact HB.out | apply below_alloc | apply pw_below_drewN | apply below_drew1 | refine below_set ?_ GE788.out | refine below_set ?_ GE801.out | refine below_set ?_ GE807.out | refine below_set ?_ GE814.out) | exact HB.out)) hb); clear HO_802002; clear HO_808002; clear HO_815002; clear HO832; clear BK788; clear BK801; clear BK807; clear BK814; clear HB; have HO_802002 := n0_; have HO_808002 := n1_; have HO_815002 := n2_; have HO832 := n3_; have HO837 := n4_; have BK788 := n5_; have BK801 := n6_; have BK807 := n7_; have BK814 := n8_; have HB := n9_; clear n0_ n1_ n2_ n3_ n4_ n5_ n6_ n7_ n8_ n9_; (try clear hb); (try clear hb2); (try clear hk); (try clear hi); (try clear ho0)) | ((with_reducible refine gate_dst (N := 14) rfl ?_); refine box_event ?hg (N := 14) ?hd (cs := #[.int .i64 0, .int .i64 0, .slice none 0 0]) (t := 26) ?hr ?_; (case hd => rfl); (case hg => rfl); (case hr => first | (go_simp; done) | (go_simp; rfl)); intro gb839 hg w118 hbox hb; have n0_ := Aside0.mk (Kd.R_below (by (with_reducible repeat (first | apply Kd.R_alloc | apply Kd.R_drewN | apply Kd.R_drew)); exact HO_802002.out) hb); have n1_ := Aside0.mk (Kd.R_below (by (with_reducible repeat (first | apply Kd.R_alloc | apply Kd.R_drewN | apply Kd.R_drew)); exact HO_808002.out) hb); have n2_ := Aside0.mk (Kd.R_below (by (with_reducible repeat (first | apply Kd.R_alloc | apply Kd.R_drewN | apply Kd.R_drew)); exact HO_815002.out) hb); have n3_ := Aside0.mk (Kd.R_below (by (with_reducible repeat (first | apply Kd.R_alloc | apply Kd.R_drewN | apply Kd.R_drew)); exact HO832.out) hb); have n4_ := Aside0.mk (Kd.R_below (by (with_reducible repeat (first | apply Kd.R_alloc | apply Kd.R_drewN | apply Kd.R_drew)); exact HO837.out) hb); have n5_ := Aside0.mk (blk_below (g := gb788) (o := .cells #[.int .i64 a0_0, .int .i64 a0_1, .slice A0_2 l0_2.length c0_2] 36 (0, 0)) BK788.out hb); have n6_ := Aside0.mk (blk_below (g := gb801) (o := .cells #[.int .i64 t795, .int .i64 t796, .slice Ao23 t797.length co23] 26 (0, 0)) BK801.out hb); have n7_ := Aside0.mk (blk_below (g := gb807) (o := .cells #[.int .i64 t802, .int .i64 t803, .slice Ao30 t823.length co30] 26 (0, 0)) BK807.out hb); have n8_ := Aside0.mk (blk_below (g := gb814) (o := .cells #[.int .i64 t808, .int .i64 t809, .slice Ao37 t810.length co37] 26 (0, 0)) BK814.out hb); have n9_ := Aside0.mk (below_step (by repeat (first | (with_reducible first | exact HB.out | apply below_alloc | apply pw_below_drewN | apply below_drew1 | refine below_set ?_ GE788.out | refine below_set ?_ GE801.out | refine below_set ?_ GE807.out | refine below_set ?_ GE814.out) | exact HB.out)) hb); have n10_ := Aside0.mk (hbox); have n11_ := Aside0.mk ((by rw [hg]; exact (below_size (by repeat (first | (with_reducible first | exact HB.out | apply below_alloc | apply pw_below_drewN | apply below_drew1 | refine below_set ?_ GE788.out | refine below_set ?_ GE801.out | refine below_set ?_ GE807.out | refine below_set ?_ GE814.out) | exact HB.out))) : w.heap.size ≤ gb839)); have n12_ := Aside0.mk ((by rw [hg]; exact (below_size (by repeat (first | (with_reducible first | exact HB.out | apply below_alloc | apply pw_below_drewN | apply below_drew1 | refine below_set ?_ GE788.out | refine below_set ?_ GE801.out | refine below_set ?_ GE807.out | refine below_set ?_ GE814.out) | exact HB.out))) : w.heap.size ≤ gb839)); have n13_ := Aside0.mk ((by rw [hg]; exact Nat.ne_of_lt (blk_lt (g := gb788) (o := .cells #[.int .i64 a0_0, .int .i64 a0_1, .slice A0_2 l0_2.length c0_2] 36 (0, 0)) BK788.out) : gb788 ≠ gb839)); have n14_ := Aside0.mk ((by rw [hg]; exact Nat.ne_of_gt (blk_lt (g := gb788) (o := .cells #[.int .i64 a0_0, .int .i64 a0_1, .slice A0_2 l0_2.length c0_2] 36 (0, 0)) BK788.out) : gb839 ≠ gb788)); have n15_ := Aside0.mk ((by rw [hg]; exact Nat.ne_of_lt (blk_lt (g := gb801) (o := .cells #[.int .i64 t795, .int .i64 t796, .slice Ao23 t797.length co23] 26 (0, 0)) BK801.out) : gb801 ≠ gb839)); have n16_ := Aside0.mk ((by rw [hg]; exact Nat.ne_of_gt (blk_lt (g := gb801) (o := .cells #[.int .i64 t795, .int .i64 t796, .slice Ao23 t797.length co23] 26 (0, 0)) BK801.out) : gb839 ≠ gb801)); have n17_ := Aside0.mk ((by rw [hg]; exact Nat.ne_of_lt (blk_lt (g := gb807) (o := .cells #[.int .i64 t802, .int .i64 t803, .slice Ao30 t823.length co30] 26 (0, 0)) BK807.out) : gb807 ≠ gb839)); have n18_ := Aside0.mk ((by rw [hg]; exact Nat.ne_of_gt (blk_lt (g := gb807) (o := .cells #[.int .i64 t802, .int .i64 t803, .slice Ao30 t823.length co30] 26 (0, 0)) BK807.out) : gb839 ≠ gb807)); have n19_ := Aside0.mk ((by rw [hg]; exact Nat.ne_of_lt (blk_lt (g := gb814) (o := .cells #[.int .i64 t808, .int .i64 t809, .slice Ao37 t810.length co37] 26 (0, 0)) BK814.out) : gb814 ≠ gb839)); have n20_ := Aside0.mk ((by rw [hg]; exact Nat.ne_of_gt (blk_lt (g := gb814) (o := .cells #[.int .i64 t808, .int .i64 t809, .slice Ao37 t810.length co37] 26 (0, 0)) BK814.out) : gb839 ≠ gb814)); clear HO_802002; clear HO_808002; clear HO_815002; clear HO832; clear HO837; clear BK788; clear BK801; clear BK807; clear BK814; clear HB; have HO_802002 := n0_; have HO_808002 := n1_; have HO_815002 := n2_; have HO832 := n3_; have HO837 := n4_; have BK788 := n5_; have BK801 := n6_; have BK807 := n7_; have BK814 := n8_; have HB := n9_; have BK839 := n10_; have GW839 := n11_; have GE839 := n12_; have NB788_839 := n13_; have NB839_788 := n14_; have NB801_839 := n15_; have NB839_801 := n16_; have NB807_839 := n17_; have NB839_807 := n18_; have NB814_839 := n19_; have NB839_814 := n20_; clear n0_ n1_ n2_ n3_ n4_ n5_ n6_ n7_ n8_ n9_ n10_ n11_ n12_ n13_ n14_ n15_ n16_ n17_ n18_ n19_ n20_; clear hb hbox hg; have hnb119 := NB839_788.out; have hnc119 := NB788_839.out; have hnb120 := NB839_801.out; have hnc120 := NB801_839.out; have hnb121 := NB839_807.out; have hnc121 := NB807_839.out; have hnb122 := NB839_814.out; have hnc122 := NB814_839.out; have hcz123_0 : w118.cell? ⟨gb839, 0, none⟩ = some (.int .i64 0) := (blk_cell BK839.out 0).trans rfl; have hcz123_1 : w118.cell? ⟨gb839, 1, none⟩ = some (.int .i64 0) := (blk_cell BK839.out 1).trans rfl; have hcz123_2 : w118.cell? ⟨gb839, 2, none⟩ = some (.slice none 0 0) := (blk_cell BK839.out 2).trans rfl; have hfz123_0 := blk_frozen BK839.out 0; have hfz123_1 := blk_frozen BK839.out 1; have hfz123_2 := blk_frozen BK839.out 2; obtain ⟨Ao124, co124, eo124⟩ := Kd.R_slice HO837.out; subst eo124))
                          (try simp only [Act.put, List.setIfInBounds_toArray, List.set_cons_zero, List.set_cons_succ])
                          go_cut [92] (fun v92 wc => ∃ (kq : Nat) (x92_103 : Bool), v92 = .bool x92_103 ∧ Aside0 (laws_FnExactLowerSlopes.j2 kq t825 x92_103 t808 t809 t826 = some r) ∧ Aside0 (kq ≤ kj60) ∧ Aside0 (Kd.R (Kd.int .i64) 3 wc w.heap.size (fun k_ => some k_ ≠ ((.slice Ao30 t823.length co30) : Value).ownBlock ∧ some k_ ≠ ((.slice Ao37 t810.length co37) : Value).ownBlock ∧ some k_ ≠ ((.slice Ao124 t835.length co124) : Value).ownBlock) (.slice Ao23 t797.length co23) t797) ∧ Aside0 (Kd.R (Kd.int .i64) 3 wc w.heap.size (fun k_ => some k_ ≠ ((.slice Ao23 t797.length co23) : Value).ownBlock ∧ some k_ ≠ ((.slice Ao37 t810.length co37) : Value).ownBlock ∧ some k_ ≠ ((.slice Ao124 t835.length co124) : Value).ownBlock) (.slice Ao30 t823.length co30) t823) ∧ Aside0 (Kd.R (Kd.int .i64) 3 wc w.heap.size (fun k_ => some k_ ≠ ((.slice Ao23 t797.length co23) : Value).ownBlock ∧ some k_ ≠ ((.slice Ao30 t823.length co30) : Value).ownBlock ∧ some k_ ≠ ((.slice Ao124 t835.length co124) : Value).ownBlock) (.slice Ao37 t810.length co37) t826) ∧ Aside0 (Kd.R (Kd.int .i64) 3 wc w.heap.size (fun k_ => some k_ ≠ ((.slice Ao23 t797.length co23) : Value).ownBlock ∧ some k_ ≠ ((.slice Ao30 t823.length co30) : Value).ownBlock ∧ some k_ ≠ ((.slice Ao37 t810.length co37) : Value).ownBlock) (.slice Ao124 t835.length co124) t835) ∧ Aside0 (wc.heap[gb788]? = some (.cells #[.int .i64 a0_0, .int .i64 a0_1, (.slice A0_2 l0_2.length c0_2)] 36 (0, 0))) ∧ Aside0 (wc.heap[gb801]? = some (.cells #[.int .i64 t795, .int .i64 t796, (.slice Ao23 t797.length co23)] 26 (0, 0))) ∧ Aside0 (wc.heap[gb807]? = some (.cells #[.int .i64 t802, .int .i64 t803, (.slice Ao30 t823.length co30)] 26 (0, 0))) ∧ Aside0 (wc.heap[gb814]? = some (.cells #[.int .i64 t808, .int .i64 t809, (.slice Ao37 t810.length co37)] 26 (0, 0))) ∧ Aside0 (wc.heap[gb839]? = some (.cells #[.int .i64 t833, .int .i64 t834, (.slice Ao124 t835.length co124)] 26 (0, 0))) ∧ Aside0 (Below w.heap.size w wc))
                          case first =>
                            as_aux_lemma =>
                              have H := HC104.out
                              clear HC104
                              replace H := Option.bind_eq_some_iff.mp H
                              obtain ⟨t840, A1250, H⟩ := H
                              replace H : (if t840 = true then (laws_FnExactLowerSlopes.j2 kj60 t825 (t838 != t800) t808 t809 t826) else (laws_FnExactLowerSlopes.j2 kj60 t825 true t808 t809 t826)) = some r := H
                              have A125 := Aside0.mk A1250
                              clear A1250
                              by_cases c126 : t840 = true
                              · subst c126
                                have H1 : (laws_FnExactLowerSlopes.j2 kj60 t825 (t838 != t800) t808 t809 t826) = some r := by rw [if_pos rfl] at H; exact H
                                clear H
                                have H := H1
                                clear H1
                                have H' := Aside0.mk H
                                clear H
                                have hnb127 := NB839_788.out
                                have hnc127 := NB788_839.out
                                have hnb128 := NB839_801.out
                                have hnc128 := NB801_839.out
                                have hnb129 := NB839_807.out
                                have hnc129 := NB807_839.out
                                have hnb130 := NB839_814.out
                                have hnc130 := NB814_839.out
                                have hcz131_0 : w118.cell? ⟨gb839, 0, none⟩ = some (.int .i64 0) := (blk_cell BK839.out 0).trans rfl
                                have hcz131_1 : w118.cell? ⟨gb839, 1, none⟩ = some (.int .i64 0) := (blk_cell BK839.out 1).trans rfl
                                have hcz131_2 : w118.cell? ⟨gb839, 2, none⟩ = some (.slice none 0 0) := (blk_cell BK839.out 2).trans rfl
                                have hfz131_0 := blk_frozen BK839.out 0
                                have hfz131_1 := blk_frozen BK839.out 1
                                have hfz131_2 := blk_frozen BK839.out 2
                                have hnb132 := NB801_788.out
                                have hnc132 := NB788_801.out
                                have hnb133 := NB801_807.out
                                have hnc133 := NB807_801.out
                                have hnb134 := NB801_814.out
                                have hnc134 := NB814_801.out
                                have hcz135_0 : w118.cell? ⟨gb801, 0, none⟩ = some (.int .i64 t795) := (blk_cell BK801.out 0).trans rfl
                                have hcz135_1 : w118.cell? ⟨gb801, 1, none⟩ = some (.int .i64 t796) := (blk_cell BK801.out 1).trans rfl
                                have hcz135_2 : w118.cell? ⟨gb801, 2, none⟩ = some (.slice Ao23 t797.length co23) := (blk_cell BK801.out 2).trans rfl
                                have hfz135_0 := blk_frozen BK801.out 0
                                have hfz135_1 := blk_frozen BK801.out 1
                                have hfz135_2 := blk_frozen BK801.out 2
                                go_wp2_with (first | ((with_reducible refine gate_callee (f := 25) rfl ?_); refine goesL_ (some 86) rfl rfl Try.func25 (by kernel_rfl) rfl #[.agg #[.int .i64 t833, .int .i64 t834, .slice Ao124 t835.length co124], .agg #[.int .i64 t795, .int .i64 t796, .slice Ao23 t797.length co23]] rfl (by (try simp only [List.map_toArray, List.map_cons, List.map_nil]); first | done | rfl | (simp only [List.length_drop, List.length_take]; rfl)) ?_; (with_reducible refine (laws_eqField.calls kj60 t833 t834 _ _ t835 t795 t796 _ _ t797 true _ ?side1 ?side2 ?side3 ?side4 A125.out).mono ?_); (case side1 => refine (Kd.R_reads' (e := 3) (base := w.heap.size) (ok := fun k_ => ((((True ∧ some k_ ≠ (.slice Ao23 t797.length co23 : Value).ownBlock) ∧ some k_ ≠ (.slice Ao30 t823.length co30 : Value).ownBlock) ∧ some k_ ≠ (.slice Ao37 t810.length co37 : Value).ownBlock) ∧ some k_ ≠ (.slice Ao116 t830.length co116 : Value).ownBlock)) (n := t835.length) (c := co124) ?_).2.2; exact (by (with_reducible repeat (first | apply Kd.R_alloc | apply Kd.R_drewN | apply Kd.R_drew)); exact (Kd.R_mono (Kd.R_far (p := ⟨gb839, 2, none⟩) (Kd.R_far (p := ⟨gb839, 1, none⟩) (Kd.R_far (p := ⟨gb839, 0, none⟩) (Kd.R_types HO837.out BK839.out (by decide)) (fun _ hk => hk.2) (.int .i64 t833)) (fun _ hk => hk.2) (.int .i64 t834)) (fun _ hk => hk.2) (.slice Ao124 t835.length co124)) (fun _ h_ => h_.1)))); (case side2 => exact (Kd.R_reads' HO837.out).2.1); (case side3 => refine (Kd.R_reads' (e := 3) (base := w.heap.size) (ok := fun k_ => (((some k_ ≠ (.slice Ao30 t823.length co30 : Value).ownBlock ∧ some k_ ≠ (.slice Ao37 t810.length co37 : Value).ownBlock) ∧ some k_ ≠ (.slice Ao116 t830.length co116 : Value).ownBlock) ∧ some k_ ≠ (.slice Ao124 t835.length co124 : Value).ownBlock)) (n := t797.length) (c := co23) ?_).2.2; exact (by (with_reducible repeat (first | apply Kd.R_alloc | apply Kd.R_drewN | apply Kd.R_drew)); exact (Kd.R_mono (Kd.R_far (p := ⟨gb839, 2, none⟩) (Kd.R_far (p := ⟨gb839, 1, none⟩) (Kd.R_far (p := ⟨gb839, 0, none⟩) (Kd.R_types HO_802002.out BK839.out (by decide)) (fun _ hk => hk.2) (.int .i64 t833)) (fun _ hk => hk.2) (.int .i64 t834)) (fun _ hk => hk.2) (.slice Ao124 t835.length co124)) (fun _ h_ => h_.1)))); (case side4 => exact (Kd.R_reads' HO_802002.out).2.1); rintro e w136 ⟨rfl, hb⟩; refine ⟨_, rfl, ?_⟩; have n0_ := Aside0.mk (Kd.R_below (by (with_reducible repeat (first | apply Kd.R_alloc | apply Kd.R_drewN | apply Kd.R_drew)); exact (Kd.R_mono (Kd.R_far (p := ⟨gb839, 2, none⟩) (Kd.R_far (p := ⟨gb839, 1, none⟩) (Kd.R_far (p := ⟨gb839, 0, none⟩) (Kd.R_types HO_802002.out BK839.out (by decide)) (fun _ hk => hk.2) (.int .i64 t833)) (fun _ hk => hk.2) (.int .i64 t834)) (fun _ hk => hk.2) (.slice Ao124 t835.length co124)) (fun _ h_ => h_.1))) hb); have n1_ := Aside0.mk (Kd.R_below (by (with_reducible repeat (first | apply Kd.R_alloc | apply Kd.R_drewN | apply Kd.R_drew)); exact (Kd.R_mono (Kd.R_far (p := ⟨gb839, 2, none⟩) (Kd.R_far (p := ⟨gb839, 1, none⟩) (Kd.R_far (p := ⟨gb839, 0, none⟩) (Kd.R_types HO_808002.out BK839.out (by decide)) (fun _ hk => hk.2) (.int .i64 t833)) (fun _ hk => hk.2) (.int .i64 t834)) (fun _ hk => hk.2) (.slice Ao124 t835.length co124)) (fun _ h_ => h_.1))) hb); have n2_ := Aside0.mk (Kd.R_below (by (with_reducible repeat (first | apply Kd.R_alloc | apply Kd.R_drewN | apply Kd.R_drew)); exact (Kd.R_mono (Kd.R_far (p := ⟨gb839, 2, none⟩) (Kd.R_far (p := ⟨gb839, 1, none⟩) (Kd.R_far (p := ⟨gb839, 0, none⟩) (Kd.R_types HO_815002.out BK839.out (by decide)) (fun _ hk => hk.2) (.int .i64 t833)) (fun _ hk => hk.2) (.int .i64 t834)) (fun _ hk => hk.2) (.slice Ao124 t835.length co124)) (fun _ h_ => h_.1))) hb); have n3_ := Aside0.mk (Kd.R_below (by (with_reducible repeat (first | apply Kd.R_alloc | apply Kd.R_drewN | apply Kd.R_drew)); exact (Kd.R_mono (Kd.R_far (p := ⟨gb839, 2, none⟩) (Kd.R_far (p := ⟨gb839, 1, none⟩) (Kd.R_far (p := ⟨gb839, 0, none⟩) (Kd.R_types HO832.out BK839.out (by decide)) (fun _ hk => hk.2) (.int .i64 t833)) (fun _ hk => hk.2) (.int .i64 t834)) (fun _ hk => hk.2) (.slice Ao124 t835.length co124)) (fun _ h_ => h_.1))) hb); have n4_ := Aside0.mk (Kd.R_below (by (with_reducible repeat (first | apply Kd.R_alloc | apply Kd.R_drewN | apply Kd.R_drew)); exact (Kd.R_mono (Kd.R_far (p := ⟨gb839, 2, none⟩) (Kd.R_far (p := ⟨gb839, 1, none⟩) (Kd.R_far (p := ⟨gb839, 0, none⟩) (Kd.R_types HO837.out BK839.out (by decide)) (fun _ hk => hk.2) (.int .i64 t833)) (fun _ hk => hk.2) (.int .i64 t834)) (fun _ hk => hk.2) (.slice Ao124 t835.length co124)) (fun _ h_ => h_.1))) hb); have n5_ := Aside0.mk (blk_below (g := gb788) (o := .cells #[.int .i64 a0_0, .int .i64 a0_1, .slice A0_2 l0_2.length c0_2] 36 (0, 0)) (by (with_reducible repeat (first | refine blk_drewN ?_ _ | refine blk_drew ?_ | refine blk_alloc ?_ _)); refine blk_far ?_ NB788_839.out _; (with_reducible repeat (first | refine blk_drewN ?_ _ | refine blk_drew ?_ | refine blk_alloc ?_ _)); refine blk_far ?_ NB788_839.out _; (with_reducible repeat (first | refine blk_drewN ?_ _ | refine blk_drew ?_ | refine blk_alloc ?_ _)); refine blk_far ?_ NB788_839.out _; (with_reducible repeat (first | refine blk_drewN ?_ _ | refine blk_drew ?_ | refine blk_alloc ?_ _)); exact BK788.out) hb); have n6_ := Aside0.mk (blk_below (g := gb801) (o := .cells #[.int .i64 t795, .int .i64 t796, .slice Ao23 t797.length co23] 26 (0, 0)) (by (with_reducible repeat (first | refine blk_drewN ?_ _ | refine blk_drew ?_ | refine blk_alloc ?_ _)); refine blk_far ?_ NB801_839.out _; (with_reducible repeat (first | refine blk_drewN ?_ _ | refine blk_drew ?_ | refine blk_alloc ?_ _)); refine blk_far ?_ NB801_839.out _; (with_reducible repeat (first | refine blk_drewN ?_ _ | refine blk_drew ?_ | refine blk_alloc ?_ _)); refine blk_far ?_ NB801_839.out _; (with_reducible repeat (first | refine blk_drewN ?_ _ | refine blk_drew ?_ | refine blk_alloc ?_ _)); exact BK801.out) hb); have n7_ := Aside0.mk (blk_below (g := gb807) (o := .cells #[.int .i64 t802, .int .i64 t803, .slice Ao30 t823.length co30] 26 (0, 0)) (by (with_reducible repeat (first | refine blk_drewN ?_ _ | refine blk_drew ?_ | refine blk_alloc ?_ _)); refine blk_far ?_ NB807_839.out _; (with_reducible repeat (first | refine blk_drewN ?_ _ | refine blk_drew ?_ | refine blk_alloc ?_ _)); refine blk_far ?_ NB807_839.out _; (with_reducible repeat (first | refine blk_drewN ?_ _ | refine blk_drew ?_ | refine blk_alloc ?_ _)); refine blk_far ?_ NB807_839.out _; (with_reducible repeat (first | refine blk_drewN ?_ _ | refine blk_drew ?_ | refine blk_alloc ?_ _)); exact BK807.out) hb); have n8_ := Aside0.mk (blk_below (g := gb814) (o := .cells #[.int .i64 t808, .int .i64 t809, .slice Ao37 t810.length co37] 26 (0, 0)) (by (with_reducible repeat (first | refine blk_drewN ?_ _ | refine blk_drew ?_ | refine blk_alloc ?_ _)); refine blk_far ?_ NB814_839.out _; (with_reducible repeat (first | refine blk_drewN ?_ _ | refine blk_drew ?_ | refine blk_alloc ?_ _)); refine blk_far ?_ NB814_839.out _; (with_reducible repeat (first | refine blk_drewN ?_ _ | refine blk_drew ?_ | refine blk_alloc ?_ _)); refine blk_far ?_ NB814_839.out _; (with_reducible repeat (first | refine blk_drewN ?_ _ | refine blk_drew ?_ | refine blk_alloc ?_ _)); exact BK814.out) hb); have n9_ := Aside0.mk (blk_below (g := gb839) (o := .cells #[.int .i64 t833, .int .i64 t834, .slice Ao124 t835.length co124] 26 (0, 0)) (by (with_reducible repeat (first | refine blk_drewN ?_ _ | refine blk_drew ?_ | refine blk_alloc ?_ _)); refine blk_put (cs := #[.int .i64 t833, .int .i64 t834, .slice none 0 0]) ?_ 2 _ rfl; (with_reducible repeat (first | refine blk_drewN ?_ _ | refine blk_drew ?_ | refine blk_alloc ?_ _)); refine blk_put (cs := #[.int .i64 t833, .int .i64 0, .slice none 0 0]) ?_ 1 _ rfl; (with_reducible repeat (first | refine blk_drewN ?_ _ | refine blk_drew ?_ | refine blk_alloc ?_ _)); refine blk_put (cs := #[.int .i64 0, .int .i64 0, .slice none 0 0]) ?_ 0 _ rfl; (with_reducible repeat (first | refine blk_drewN ?_ _ | refine blk_drew ?_ | refine blk_alloc ?_ _)); exact BK839.out) hb); have n10_ := Aside0.mk (below_step (by repeat (first | (with_reducible first | exact HB.out | apply below_alloc | apply pw_below_drewN | apply below_drew1 | refine below_set ?_ GE788.out | refine below_set ?_ GE801.out | refine below_set ?_ GE807.out | refine below_set ?_ GE814.out | refine below_set ?_ GE839.out) | exact HB.out)) hb); clear HO_802002; clear HO_808002; clear HO_815002; clear HO832; clear HO837; clear BK788; clear BK801; clear BK807; clear BK814; clear BK839; clear HB; have HO_802002 := n0_; have HO_808002 := n1_; have HO_815002 := n2_; have HO832 := n3_; have HO837 := n4_; have BK788 := n5_; have BK801 := n6_; have BK807 := n7_; have BK814 := n8_; have BK839 := n9_; have HB := n10_; clear n0_ n1_ n2_ n3_ n4_ n5_ n6_ n7_ n8_ n9_ n10_; (try clear hb); (try clear hb2); (try clear hk); (try clear hi)))
                                go_meet
                                case rel => exact ⟨_, ((t838 != t800)), (by first | rfl | (simp; done) | (simp [*]; done)), H', ⟨by have := HJ11.out; have := HJ60.out; first | omega | exact Nat.le_refl _⟩, ⟨by (try simp only [hl808002_60]); (with_reducible repeat (first | apply Kd.R_alloc | apply Kd.R_drewN | apply Kd.R_drew)); exact Kd.R_mono HO_802002.out (fun _ hk => ⟨hk.1.1.1, ⟨hk.1.1.2, hk.2⟩⟩)⟩, ⟨by (try simp only [hl808002_60]); (with_reducible repeat (first | apply Kd.R_alloc | apply Kd.R_drewN | apply Kd.R_drew)); exact Kd.R_mono HO_808002.out (fun _ hk => ⟨hk.1.1.1, ⟨hk.1.1.2, hk.2⟩⟩)⟩, ⟨by (try simp only [hl808002_60]); (with_reducible repeat (first | apply Kd.R_alloc | apply Kd.R_drewN | apply Kd.R_drew)); exact Kd.R_mono HO_815002.out (fun _ hk => ⟨hk.1.1.1, ⟨hk.1.1.2, hk.2⟩⟩)⟩, ⟨by (try simp only [hl808002_60]); (with_reducible repeat (first | apply Kd.R_alloc | apply Kd.R_drewN | apply Kd.R_drew)); exact Kd.R_mono HO837.out (fun _ hk => ⟨hk.1.1.1.2, ⟨hk.1.1.2, hk.1.2⟩⟩)⟩, ⟨by (try simp only [hl808002_60]); (with_reducible repeat (first | refine blk_drewN ?_ _ | refine blk_drew ?_ | refine blk_alloc ?_ _)); exact BK788.out⟩, ⟨by (try simp only [hl808002_60]); (with_reducible repeat (first | refine blk_drewN ?_ _ | refine blk_drew ?_ | refine blk_alloc ?_ _)); exact BK801.out⟩, ⟨by (try simp only [hl808002_60]); (with_reducible repeat (first | refine blk_drewN ?_ _ | refine blk_drew ?_ | refine blk_alloc ?_ _)); exact BK807.out⟩, ⟨by (try simp only [hl808002_60]); (with_reducible repeat (first | refine blk_drewN ?_ _ | refine blk_drew ?_ | refine blk_alloc ?_ _)); exact BK814.out⟩, ⟨by (try simp only [hl808002_60]); (with_reducible repeat (first | refine blk_drewN ?_ _ | refine blk_drew ?_ | refine blk_alloc ?_ _)); exact BK839.out⟩, ⟨by repeat (first | (with_reducible first | exact HB.out | apply below_alloc | apply pw_below_drewN | apply below_drew1 | refine below_set ?_ GE788.out | refine below_set ?_ GE801.out | refine below_set ?_ GE807.out | refine below_set ?_ GE814.out | refine below_set ?_ GE839.out) | exact HB.out)⟩⟩
                              · replace c126 := Bool.eq_false_iff.mpr c126
                                subst c126
                                have H1 : (laws_FnExactLowerSlopes.j2 kj60 t825 true t808 t809 t826) = some r := by rw [if_neg (show ¬ (false = true) by decide)] at H; exact H
                                clear H
                                have H := H1
                                clear H1
                                have H' := Aside0.mk H
                                clear H
                                have hnb137 := NB839_788.out
                                have hnc137 := NB788_839.out
                                have hnb138 := NB839_801.out
                                have hnc138 := NB801_839.out
                                have hnb139 := NB839_807.out
                                have hnc139 := NB807_839.out
                                have hnb140 := NB839_814.out
                                have hnc140 := NB814_839.out
                                have hcz141_0 : w118.cell? ⟨gb839, 0, none⟩ = some (.int .i64 0) := (blk_cell BK839.out 0).trans rfl
                                have hcz141_1 : w118.cell? ⟨gb839, 1, none⟩ = some (.int .i64 0) := (blk_cell BK839.out 1).trans rfl
                                have hcz141_2 : w118.cell? ⟨gb839, 2, none⟩ = some (.slice none 0 0) := (blk_cell BK839.out 2).trans rfl
                                have hfz141_0 := blk_frozen BK839.out 0
                                have hfz141_1 := blk_frozen BK839.out 1
                                have hfz141_2 := blk_frozen BK839.out 2
                                have hnb142 := NB801_788.out
                                have hnc142 := NB788_801.out
                                have hnb143 := NB801_807.out
                                have hnc143 := NB807_801.out
                                have hnb144 := NB801_814.out
                                have hnc144 := NB814_801.out
                                have hcz145_0 : w118.cell? ⟨gb801, 0, none⟩ = some (.int .i64 t795) := (blk_cell BK801.out 0).trans rfl
                                have hcz145_1 : w118.cell? ⟨gb801, 1, none⟩ = some (.int .i64 t796) := (blk_cell BK801.out 1).trans rfl
                                have hcz145_2 : w118.cell? ⟨gb801, 2, none⟩ = some (.slice Ao23 t797.length co23) := (blk_cell BK801.out 2).trans rfl
                                have hfz145_0 := blk_frozen BK801.out 0
                                have hfz145_1 := blk_frozen BK801.out 1
                                have hfz145_2 := blk_frozen BK801.out 2
                                go_wp2_with (first | ((with_reducible refine gate_callee (f := 25) rfl ?_); refine goesL_ (some 86) rfl rfl Try.func25 (by kernel_rfl) rfl #[.agg #[.int .i64 t833, .int .i64 t834, .slice Ao124 t835.length co124], .agg #[.int .i64 t795, .int .i64 t796, .slice Ao23 t797.length co23]] rfl (by (try simp only [List.map_toArray, List.map_cons, List.map_nil]); first | done | rfl | (simp only [List.length_drop, List.length_take]; rfl)) ?_; (with_reducible refine (laws_eqField.calls kj60 t833 t834 _ _ t835 t795 t796 _ _ t797 false _ ?side1 ?side2 ?side3 ?side4 A125.out).mono ?_); (case side1 => refine (Kd.R_reads' (e := 3) (base := w.heap.size) (ok := fun k_ => ((((True ∧ some k_ ≠ (.slice Ao23 t797.length co23 : Value).ownBlock) ∧ some k_ ≠ (.slice Ao30 t823.length co30 : Value).ownBlock) ∧ some k_ ≠ (.slice Ao37 t810.length co37 : Value).ownBlock) ∧ some k_ ≠ (.slice Ao116 t830.length co116 : Value).ownBlock)) (n := t835.length) (c := co124) ?_).2.2; exact (by (with_reducible repeat (first | apply Kd.R_alloc | apply Kd.R_drewN | apply Kd.R_drew)); exact (Kd.R_mono (Kd.R_far (p := ⟨gb839, 2, none⟩) (Kd.R_far (p := ⟨gb839, 1, none⟩) (Kd.R_far (p := ⟨gb839, 0, none⟩) (Kd.R_types HO837.out BK839.out (by decide)) (fun _ hk => hk.2) (.int .i64 t833)) (fun _ hk => hk.2) (.int .i64 t834)) (fun _ hk => hk.2) (.slice Ao124 t835.length co124)) (fun _ h_ => h_.1)))); (case side2 => exact (Kd.R_reads' HO837.out).2.1); (case side3 => refine (Kd.R_reads' (e := 3) (base := w.heap.size) (ok := fun k_ => (((some k_ ≠ (.slice Ao30 t823.length co30 : Value).ownBlock ∧ some k_ ≠ (.slice Ao37 t810.length co37 : Value).ownBlock) ∧ some k_ ≠ (.slice Ao116 t830.length co116 : Value).ownBlock) ∧ some k_ ≠ (.slice Ao124 t835.length co124 : Value).ownBlock)) (n := t797.length) (c := co23) ?_).2.2; exact (by (with_reducible repeat (first | apply Kd.R_alloc | apply Kd.R_drewN | apply Kd.R_drew)); exact (Kd.R_mono (Kd.R_far (p := ⟨gb839, 2, none⟩) (Kd.R_far (p := ⟨gb839, 1, none⟩) (Kd.R_far (p := ⟨gb839, 0, none⟩) (Kd.R_types HO_802002.out BK839.out (by decide)) (fun _ hk => hk.2) (.int .i64 t833)) (fun _ hk => hk.2) (.int .i64 t834)) (fun _ hk => hk.2) (.slice Ao124 t835.length co124)) (fun _ h_ => h_.1)))); (case side4 => exact (Kd.R_reads' HO_802002.out).2.1); rintro e w146 ⟨rfl, hb⟩; refine ⟨_, rfl, ?_⟩; have n0_ := Aside0.mk (Kd.R_below (by (with_reducible repeat (first | apply Kd.R_alloc | apply Kd.R_drewN | apply Kd.R_drew)); exact (Kd.R_mono (Kd.R_far (p := ⟨gb839, 2, none⟩) (Kd.R_far (p := ⟨gb839, 1, none⟩) (Kd.R_far (p := ⟨gb839, 0, none⟩) (Kd.R_types HO_802002.out BK839.out (by decide)) (fun _ hk => hk.2) (.int .i64 t833)) (fun _ hk => hk.2) (.int .i64 t834)) (fun _ hk => hk.2) (.slice Ao124 t835.length co124)) (fun _ h_ => h_.1))) hb); have n1_ := Aside0.mk (Kd.R_below (by (with_reducible repeat (first | apply Kd.R_alloc | apply Kd.R_drewN | apply Kd.R_drew)); exact (Kd.R_mono (Kd.R_far (p := ⟨gb839, 2, none⟩) (Kd.R_far (p := ⟨gb839, 1, none⟩) (Kd.R_far (p := ⟨gb839, 0, none⟩) (Kd.R_types HO_808002.out BK839.out (by decide)) (fun _ hk => hk.2) (.int .i64 t833)) (fun _ hk => hk.2) (.int .i64 t834)) (fun _ hk => hk.2) (.slice Ao124 t835.length co124)) (fun _ h_ => h_.1))) hb); have n2_ := Aside0.mk (Kd.R_below (by (with_reducible repeat (first | apply Kd.R_alloc | apply Kd.R_drewN | apply Kd.R_drew)); exact (Kd.R_mono (Kd.R_far (p := ⟨gb839, 2, none⟩) (Kd.R_far (p := ⟨gb839, 1, none⟩) (Kd.R_far (p := ⟨gb839, 0, none⟩) (Kd.R_types HO_815002.out BK839.out (by decide)) (fun _ hk => hk.2) (.int .i64 t833)) (fun _ hk => hk.2) (.int .i64 t834)) (fun _ hk => hk.2) (.slice Ao124 t835.length co124)) (fun _ h_ => h_.1))) hb); have n3_ := Aside0.mk (Kd.R_below (by (with_reducible repeat (first | apply Kd.R_alloc | apply Kd.R_drewN | apply Kd.R_drew)); exact (Kd.R_mono (Kd.R_far (p := ⟨gb839, 2, none⟩) (Kd.R_far (p := ⟨gb839, 1, none⟩) (Kd.R_far (p := ⟨gb839, 0, none⟩) (Kd.R_types HO832.out BK839.out (by decide)) (fun _ hk => hk.2) (.int .i64 t833)) (fun _ hk => hk.2) (.int .i64 t834)) (fun _ hk => hk.2) (.slice Ao124 t835.length co124)) (fun _ h_ => h_.1))) hb); have n4_ := Aside0.mk (Kd.R_below (by (with_reducible repeat (first | apply Kd.R_alloc | apply Kd.R_drewN | apply Kd.R_drew)); exact (Kd.R_mono (Kd.R_far (p := ⟨gb839, 2, none⟩) (Kd.R_far (p := ⟨gb839, 1, none⟩) (Kd.R_far (p := ⟨gb839, 0, none⟩) (Kd.R_types HO837.out BK839.out (by decide)) (fun _ hk => hk.2) (.int .i64 t833)) (fun _ hk => hk.2) (.int .i64 t834)) (fun _ hk => hk.2) (.slice Ao124 t835.length co124)) (fun _ h_ => h_.1))) hb); have n5_ := Aside0.mk (blk_below (g := gb788) (o := .cells #[.int .i64 a0_0, .int .i64 a0_1, .slice A0_2 l0_2.length c0_2] 36 (0, 0)) (by (with_reducible repeat (first | refine blk_drewN ?_ _ | refine blk_drew ?_ | refine blk_alloc ?_ _)); refine blk_far ?_ NB788_839.out _; (with_reducible repeat (first | refine blk_drewN ?_ _ | refine blk_drew ?_ | refine blk_alloc ?_ _)); refine blk_far ?_ NB788_839.out _; (with_reducible repeat (first | refine blk_drewN ?_ _ | refine blk_drew ?_ | refine blk_alloc ?_ _)); refine blk_far ?_ NB788_839.out _; (with_reducible repeat (first | refine blk_drewN ?_ _ | refine blk_drew ?_ | refine blk_alloc ?_ _)); exact BK788.out) hb); have n6_ := Aside0.mk (blk_below (g := gb801) (o := .cells #[.int .i64 t795, .int .i64 t796, .slice Ao23 t797.length co23] 26 (0, 0)) (by (with_reducible repeat (first | refine blk_drewN ?_ _ | refine blk_drew ?_ | refine blk_alloc ?_ _)); refine blk_far ?_ NB801_839.out _; (with_reducible repeat (first | refine blk_drewN ?_ _ | refine blk_drew ?_ | refine blk_alloc ?_ _)); refine blk_far ?_ NB801_839.out _; (with_reducible repeat (first | refine blk_drewN ?_ _ | refine blk_drew ?_ | refine blk_alloc ?_ _)); refine blk_far ?_ NB801_839.out _; (with_reducible repeat (first | refine blk_drewN ?_ _ | refine blk_drew ?_ | refine blk_alloc ?_ _)); exact BK801.out) hb); have n7_ := Aside0.mk (blk_below (g := gb807) (o := .cells #[.int .i64 t802, .int .i64 t803, .slice Ao30 t823.length co30] 26 (0, 0)) (by (with_reducible repeat (first | refine blk_drewN ?_ _ | refine blk_drew ?_ | refine blk_alloc ?_ _)); refine blk_far ?_ NB807_839.out _; (with_reducible repeat (first | refine blk_drewN ?_ _ | refine blk_drew ?_ | refine blk_alloc ?_ _)); refine blk_far ?_ NB807_839.out _; (with_reducible repeat (first | refine blk_drewN ?_ _ | refine blk_drew ?_ | refine blk_alloc ?_ _)); refine blk_far ?_ NB807_839.out _; (with_reducible repeat (first | refine blk_drewN ?_ _ | refine blk_drew ?_ | refine blk_alloc ?_ _)); exact BK807.out) hb); have n8_ := Aside0.mk (blk_below (g := gb814) (o := .cells #[.int .i64 t808, .int .i64 t809, .slice Ao37 t810.length co37] 26 (0, 0)) (by (with_reducible repeat (first | refine blk_drewN ?_ _ | refine blk_drew ?_ | refine blk_alloc ?_ _)); refine blk_far ?_ NB814_839.out _; (with_reducible repeat (first | refine blk_drewN ?_ _ | refine blk_drew ?_ | refine blk_alloc ?_ _)); refine blk_far ?_ NB814_839.out _; (with_reducible repeat (first | refine blk_drewN ?_ _ | refine blk_drew ?_ | refine blk_alloc ?_ _)); refine blk_far ?_ NB814_839.out _; (with_reducible repeat (first | refine blk_drewN ?_ _ | refine blk_drew ?_ | refine blk_alloc ?_ _)); exact BK814.out) hb); have n9_ := Aside0.mk (blk_below (g := gb839) (o := .cells #[.int .i64 t833, .int .i64 t834, .slice Ao124 t835.length co124] 26 (0, 0)) (by (with_reducible repeat (first | refine blk_drewN ?_ _ | refine blk_drew ?_ | refine blk_alloc ?_ _)); refine blk_put (cs := #[.int .i64 t833, .int .i64 t834, .slice none 0 0]) ?_ 2 _ rfl; (with_reducible repeat (first | refine blk_drewN ?_ _ | refine blk_drew ?_ | refine blk_alloc ?_ _)); refine blk_put (cs := #[.int .i64 t833, .int .i64 0, .slice none 0 0]) ?_ 1 _ rfl; (with_reducible repeat (first | refine blk_drewN ?_ _ | refine blk_drew ?_ | refine blk_alloc ?_ _)); refine blk_put (cs := #[.int .i64 0, .int .i64 0, .slice none 0 0]) ?_ 0 _ rfl; (with_reducible repeat (first | refine blk_drewN ?_ _ | refine blk_drew ?_ | refine blk_alloc ?_ _)); exact BK839.out) hb); have n10_ := Aside0.mk (below_step (by repeat (first | (with_reducible first | exact HB.out | apply below_alloc | apply pw_below_drewN | apply below_drew1 | refine below_set ?_ GE788.out | refine below_set ?_ GE801.out | refine below_set ?_ GE807.out | refine below_set ?_ GE814.out | refine below_set ?_ GE839.out) | exact HB.out)) hb); clear HO_802002; clear HO_808002; clear HO_815002; clear HO832; clear HO837; clear BK788; clear BK801; clear BK807; clear BK814; clear BK839; clear HB; have HO_802002 := n0_; have HO_808002 := n1_; have HO_815002 := n2_; have HO832 := n3_; have HO837 := n4_; have BK788 := n5_; have BK801 := n6_; have BK807 := n7_; have BK814 := n8_; have BK839 := n9_; have HB := n10_; clear n0_ n1_ n2_ n3_ n4_ n5_ n6_ n7_ n8_ n9_ n10_; (try clear hb); (try clear hb2); (try clear hk); (try clear hi)))
                                go_meet
                                case rel => exact ⟨_, (true), (by first | rfl | (simp; done) | (simp [*]; done)), H', ⟨by have := HJ11.out; have := HJ60.out; first | omega | exact Nat.le_refl _⟩, ⟨by (try simp only [hl808002_60]); (with_reducible repeat (first | apply Kd.R_alloc | apply Kd.R_drewN | apply Kd.R_drew)); exact Kd.R_mono HO_802002.out (fun _ hk => ⟨hk.1.1.1, ⟨hk.1.1.2, hk.2⟩⟩)⟩, ⟨by (try simp only [hl808002_60]); (with_reducible repeat (first | apply Kd.R_alloc | apply Kd.R_drewN | apply Kd.R_drew)); exact Kd.R_mono HO_808002.out (fun _ hk => ⟨hk.1.1.1, ⟨hk.1.1.2, hk.2⟩⟩)⟩, ⟨by (try simp only [hl808002_60]); (with_reducible repeat (first | apply Kd.R_alloc | apply Kd.R_drewN | apply Kd.R_drew)); exact Kd.R_mono HO_815002.out (fun _ hk => ⟨hk.1.1.1, ⟨hk.1.1.2, hk.2⟩⟩)⟩, ⟨by (try simp only [hl808002_60]); (with_reducible repeat (first | apply Kd.R_alloc | apply Kd.R_drewN | apply Kd.R_drew)); exact Kd.R_mono HO837.out (fun _ hk => ⟨hk.1.1.1.2, ⟨hk.1.1.2, hk.1.2⟩⟩)⟩, ⟨by (try simp only [hl808002_60]); (with_reducible repeat (first | refine blk_drewN ?_ _ | refine blk_drew ?_ | refine blk_alloc ?_ _)); exact BK788.out⟩, ⟨by (try simp only [hl808002_60]); (with_reducible repeat (first | refine blk_drewN ?_ _ | refine blk_drew ?_ | refine blk_alloc ?_ _)); exact BK801.out⟩, ⟨by (try simp only [hl808002_60]); (with_reducible repeat (first | refine blk_drewN ?_ _ | refine blk_drew ?_ | refine blk_alloc ?_ _)); exact BK807.out⟩, ⟨by (try simp only [hl808002_60]); (with_reducible repeat (first | refine blk_drewN ?_ _ | refine blk_drew ?_ | refine blk_alloc ?_ _)); exact BK814.out⟩, ⟨by (try simp only [hl808002_60]); (with_reducible repeat (first | refine blk_drewN ?_ _ | refine blk_drew ?_ | refine blk_alloc ?_ _)); exact BK839.out⟩, ⟨by repeat (first | (with_reducible first | exact HB.out | apply below_alloc | apply pw_below_drewN | apply below_drew1 | refine below_set ?_ GE788.out | refine below_set ?_ GE801.out | refine below_set ?_ GE807.out | refine below_set ?_ GE814.out | refine below_set ?_ GE839.out) | exact HB.out)⟩⟩
                          case rest =>
                            as_aux_lemma =>
                              clear HC104
                              try clear c1
                              try clear c2
                              try clear p2
                              try clear c3
                              try clear c4
                              try clear c4b0
                              try clear c5
                              try clear c6
                              try clear c7
                              try clear c8
                              try clear c9
                              try clear c10
                              try clear c11
                              try clear c12
                              try clear c13
                              try clear c14
                              try clear c15
                              try clear c20
                              try clear c21
                              try clear c22
                              try clear c25
                              try clear c27
                              try clear c28
                              try clear c29
                              try clear c33
                              try clear c34
                              try clear c35
                              try clear c39
                              try clear c40
                              try clear c41
                              try clear c42
                              try clear c44
                              try clear c45
                              try clear c48
                              try clear c49
                              try clear c50
                              try clear c52
                              try clear c53
                              try clear c56
                              try clear c59
                              try clear c66
                              try clear c67
                              try clear c68
                              try clear c71
                              try clear c71b0
                              try clear c73
                              try clear c74
                              try clear c75
                              try clear c76
                              try clear c78
                              try clear c79
                              try clear c82
                              try clear c83
                              try clear c84
                              try clear c86
                              try clear c87
                              try clear c90
                              try clear c93
                              try clear c93b0
                              try clear c94
                              try clear c95
                              try clear c96
                              try clear c101
                              try clear c101b0
                              try clear c101b1
                              try clear c105
                              try clear c106
                              try clear c107
                              try clear c112
                              try clear c113
                              try clear c119
                              try clear c120
                              try clear c121
                              try clear c122
                              try clear c126
                              try clear c127
                              try clear c128
                              try clear c129
                              try clear c130
                              try clear c132
                              try clear c133
                              try clear c134
                              try clear c137
                              try clear c138
                              try clear c139
                              try clear c140
                              try clear c142
                              try clear c143
                              try clear c144
                              try clear hcz108_0
                              try clear hcz108_1
                              try clear hcz108_2
                              try clear hcz110_0
                              try clear hcz110_1
                              try clear hcz110_2
                              try clear hcz114_0
                              try clear hcz114_1
                              try clear hcz114_2
                              try clear hcz123_0
                              try clear hcz123_1
                              try clear hcz123_2
                              try clear hcz131_0
                              try clear hcz131_1
                              try clear hcz131_2
                              try clear hcz135_0
                              try clear hcz135_1
                              try clear hcz135_2
                              try clear hcz141_0
                              try clear hcz141_1
                              try clear hcz141_2
                              try clear hcz145_0
                              try clear hcz145_1
                              try clear hcz145_2
                              try clear hcz14_0
                              try clear hcz14_1
                              try clear hcz14_2
                              try clear hcz16_0
                              try clear hcz16_1
                              try clear hcz16_2
                              try clear hcz22_0
                              try clear hcz22_1
                              try clear hcz22_2
                              try clear hcz24_0
                              try clear hcz24_1
                              try clear hcz24_2
                              try clear hcz29_0
                              try clear hcz29_1
                              try clear hcz29_2
                              try clear hcz36_0
                              try clear hcz36_1
                              try clear hcz36_2
                              try clear hcz43_0
                              try clear hcz43_1
                              try clear hcz43_2
                              try clear hcz46_0
                              try clear hcz46_1
                              try clear hcz46_2
                              try clear hcz51_0
                              try clear hcz51_1
                              try clear hcz51_2
                              try clear hcz54_0
                              try clear hcz54_1
                              try clear hcz54_2
                              try clear hcz69_0
                              try clear hcz69_1
                              try clear hcz69_2
                              try clear hcz6_0
                              try clear hcz6_1
                              try clear hcz6_2
                              try clear hcz77_0
                              try clear hcz77_1
                              try clear hcz77_2
                              try clear hcz80_0
                              try clear hcz80_1
                              try clear hcz80_2
                              try clear hcz85_0
                              try clear hcz85_1
                              try clear hcz85_2
                              try clear hcz88_0
                              try clear hcz88_1
                              try clear hcz88_2
                              try clear hcz97_0
                              try clear hcz97_1
                              try clear hcz97_2
                              try clear hcz99_0
                              try clear hcz99_1
                              try clear hcz99_2
                              try clear hfz108_0
                              try clear hfz108_1
                              try clear hfz108_2
                              try clear hfz110_0
                              try clear hfz110_1
                              try clear hfz110_2
                              try clear hfz114_0
                              try clear hfz114_1
                              try clear hfz114_2
                              try clear hfz123_0
                              try clear hfz123_1
                              try clear hfz123_2
                              try clear hfz131_0
                              try clear hfz131_1
                              try clear hfz131_2
                              try clear hfz135_0
                              try clear hfz135_1
                              try clear hfz135_2
                              try clear hfz141_0
                              try clear hfz141_1
                              try clear hfz141_2
                              try clear hfz145_0
                              try clear hfz145_1
                              try clear hfz145_2
                              try clear hfz14_0
                              try clear hfz14_1
                              try clear hfz14_2
                              try clear hfz16_0
                              try clear hfz16_1
                              try clear hfz16_2
                              try clear hfz22_0
                              try clear hfz22_1
                              try clear hfz22_2
                              try clear hfz24_0
                              try clear hfz24_1
                              try clear hfz24_2
                              try clear hfz29_0
                              try clear hfz29_1
                              try clear hfz29_2
                              try clear hfz36_0
                              try clear hfz36_1
                              try clear hfz36_2
                              try clear hfz43_0
                              try clear hfz43_1
                              try clear hfz43_2
                              try clear hfz46_0
                              try clear hfz46_1
                              try clear hfz46_2
                              try clear hfz51_0
                              try clear hfz51_1
                              try clear hfz51_2
                              try clear hfz54_0
                              try clear hfz54_1
                              try clear hfz54_2
                              try clear hfz69_0
                              try clear hfz69_1
                              try clear hfz69_2
                              try clear hfz6_0
                              try clear hfz6_1
                              try clear hfz6_2
                              try clear hfz77_0
                              try clear hfz77_1
                              try clear hfz77_2
                              try clear hfz80_0
                              try clear hfz80_1
                              try clear hfz80_2
                              try clear hfz85_0
                              try clear hfz85_1
                              try clear hfz85_2
                              try clear hfz88_0
                              try clear hfz88_1
                              try clear hfz88_2
                              try clear hfz97_0
                              try clear hfz97_1
                              try clear hfz97_2
                              try clear hfz99_0
                              try clear hfz99_1
                              try clear hfz99_2
                              try clear p2
                              obtain ⟨kq, x92_103, rfl, HA, HJ103, HO_802002, HO_808002, HO_815002, HO_840002, BK788, BK801, BK807, BK814, BK839, HB⟩ := hcut
                              have hl815002_103 := (Kd.R_reads' HO_815002.out).1
                              rw [hl815002_103] at HO_815002
                              (try simp only [hl815002_103])
                              (try simp only [hl815002_103] at BK788)
                              (try simp only [hl815002_103] at BK801)
                              (try simp only [hl815002_103] at BK807)
                              (try simp only [hl815002_103] at BK814)
                              (try simp only [hl815002_103] at BK839)
                              (try simp only [hl815002_103] at HO_802002)
                              (try simp only [hl815002_103] at HO_808002)
                              (try simp only [hl815002_103] at HO_840002)
                              cases kq with
                              | zero => exact absurd HA.out (by simp [laws_FnExactLowerSlopes.j2])
                              | succ kj103 =>
                                have H := HA.out
                                clear HA
                                simp only [laws_FnExactLowerSlopes.j2] at H
                                by_cases c147 : x92_103 = true
                                · subst c147
                                  have H1 : (some false) = some r := by rw [if_pos rfl] at H; exact H
                                  exact absurd ((Option.some.inj H1).trans hrt_) (by decide)
                                · replace c147 := Bool.eq_false_iff.mpr c147
                                  subst c147
                                  have H1 : ((laws_heldField.f kj103 t808 t809 t826 1).bind fun t841 => (if t841 < 0 then (some false) else (if t841 = t825 then (some true) else (some false)))) = some r := by rw [if_neg (show ¬ (false = true) by decide)] at H; exact H
                                  clear H
                                  have H := H1
                                  clear H1
                                  replace H := Option.bind_eq_some_iff.mp H
                                  obtain ⟨t841, A1480, H⟩ := H
                                  replace H : (if t841 < 0 then (some false) else (if t841 = t825 then (some true) else (some false))) = some r := H
                                  have A148 := Aside0.mk A1480
                                  clear A1480
                                  by_cases c149 : t841 < 0
                                  · rw [if_pos c149] at H
                                    have c149b0 : decide (t841 < 0) = true := decide_eq_true c149
                                    clear c149
                                    obtain rfl := Option.some.inj H
                                    have hnb150 := NB814_788.out
                                    have hnc150 := NB788_814.out
                                    have hnb151 := NB814_801.out
                                    have hnc151 := NB801_814.out
                                    have hnb152 := NB814_807.out
                                    have hnc152 := NB807_814.out
                                    have hnb153 := NB814_839.out
                                    have hnc153 := NB839_814.out
                                    have hcz154_0 : wc.cell? ⟨gb814, 0, none⟩ = some (.int .i64 t808) := (blk_cell BK814.out 0).trans rfl
                                    have hcz154_1 : wc.cell? ⟨gb814, 1, none⟩ = some (.int .i64 t809) := (blk_cell BK814.out 1).trans rfl
                                    have hcz154_2 : wc.cell? ⟨gb814, 2, none⟩ = some (.slice Ao37 t826.length co37) := (blk_cell BK814.out 2).trans rfl
                                    have hfz154_0 := blk_frozen BK814.out 0
                                    have hfz154_1 := blk_frozen BK814.out 1
                                    have hfz154_2 := blk_frozen BK814.out 2
                                    go_wp2_with (first | ((with_reducible refine gate_callee (f := 29) rfl ?_); refine goesL_ (some 95) rfl rfl Try.func29 (by kernel_rfl) rfl #[.agg #[.int .i64 t808, .int .i64 t809, .slice Ao37 t826.length co37], .int .i64 1] rfl (by (try simp only [List.map_toArray, List.map_cons, List.map_nil]); first | done | rfl | (simp only [List.length_drop, List.length_take]; rfl)) ?_; (with_reducible refine (laws_heldField.calls kj103 t808 t809 _ _ t826 1 t841 _ ?side1 ?side2 A148.out).mono ?_); (case side1 => repeat (first | exact (Kd.R_reads' HO_815002.out).2.2 | (with_reducible refine Kd.C_alloc ?_ _) | (with_reducible refine Kd.C_drewN ?_ _) | (with_reducible refine Kd.C_drew ?_))); (case side2 => exact (Kd.R_reads' HO_815002.out).2.1); rintro e w155 ⟨rfl, hb⟩; refine ⟨_, rfl, ?_⟩; have n0_ := Aside0.mk (Kd.R_below (by (with_reducible repeat (first | apply Kd.R_alloc | apply Kd.R_drewN | apply Kd.R_drew)); exact HO_802002.out) hb); have n1_ := Aside0.mk (Kd.R_below (by (with_reducible repeat (first | apply Kd.R_alloc | apply Kd.R_drewN | apply Kd.R_drew)); exact HO_808002.out) hb); have n2_ := Aside0.mk (Kd.R_below (by (with_reducible repeat (first | apply Kd.R_alloc | apply Kd.R_drewN | apply Kd.R_drew)); exact HO_815002.out) hb); have n3_ := Aside0.mk (Kd.R_below (by (with_reducible repeat (first | apply Kd.R_alloc | apply Kd.R_drewN | apply Kd.R_drew)); exact HO_840002.out) hb); have n4_ := Aside0.mk (blk_below (g := gb788) (o := .cells #[.int .i64 a0_0, .int .i64 a0_1, .slice A0_2 l0_2.length c0_2] 36 (0, 0)) BK788.out hb); have n5_ := Aside0.mk (blk_below (g := gb801) (o := .cells #[.int .i64 t795, .int .i64 t796, .slice Ao23 t797.length co23] 26 (0, 0)) BK801.out hb); have n6_ := Aside0.mk (blk_below (g := gb807) (o := .cells #[.int .i64 t802, .int .i64 t803, .slice Ao30 t823.length co30] 26 (0, 0)) BK807.out hb); have n7_ := Aside0.mk (blk_below (g := gb814) (o := .cells #[.int .i64 t808, .int .i64 t809, .slice Ao37 t826.length co37] 26 (0, 0)) BK814.out hb); have n8_ := Aside0.mk (blk_below (g := gb839) (o := .cells #[.int .i64 t833, .int .i64 t834, .slice Ao124 t835.length co124] 26 (0, 0)) BK839.out hb); have n9_ := Aside0.mk (below_step (by repeat (first | (with_reducible first | exact HB.out | apply below_alloc | apply pw_below_drewN | apply below_drew1 | refine below_set ?_ GE788.out | refine below_set ?_ GE801.out | refine below_set ?_ GE807.out | refine below_set ?_ GE814.out | refine below_set ?_ GE839.out) | exact HB.out)) hb); clear HO_802002; clear HO_808002; clear HO_815002; clear HO_840002; clear BK788; clear BK801; clear BK807; clear BK814; clear BK839; clear HB; have HO_802002 := n0_; have HO_808002 := n1_; have HO_815002 := n2_; have HO_840002 := n3_; have BK788 := n4_; have BK801 := n5_; have BK807 := n6_; have BK814 := n7_; have BK839 := n8_; have HB := n9_; clear n0_ n1_ n2_ n3_ n4_ n5_ n6_ n7_ n8_ n9_; (try clear hb); (try clear hb2); (try clear hk); (try clear hi)))
                                    go_ret
                                    exact ⟨by first | rfl | (simp [errW_none, errW_some] <;> rfl) | (simp [*, errW_none, errW_some] <;> rfl), by repeat (first | (with_reducible first | exact HB.out | apply below_alloc | apply pw_below_drewN | apply below_drew1 | refine below_set ?_ GE788.out | refine below_set ?_ GE801.out | refine below_set ?_ GE807.out | refine below_set ?_ GE814.out | refine below_set ?_ GE839.out) | exact HB.out)⟩
                                  · rw [if_neg c149] at H
                                    have c149b0 : decide (t841 < 0) = false := decide_eq_false c149
                                    clear c149
                                    by_cases c156 : t841 = t825
                                    · rw [if_pos c156] at H
                                      have c156b0 : (t841 == t825) = true := beq_iff_eq.mpr c156
                                      have c156b1 : (t841 != t825) = false := bne_eq_false_iff_eq.mpr c156
                                      clear c156
                                      obtain rfl := Option.some.inj H
                                      have hnb157 := NB814_788.out
                                      have hnc157 := NB788_814.out
                                      have hnb158 := NB814_801.out
                                      have hnc158 := NB801_814.out
                                      have hnb159 := NB814_807.out
                                      have hnc159 := NB807_814.out
                                      have hnb160 := NB814_839.out
                                      have hnc160 := NB839_814.out
                                      have hcz161_0 : wc.cell? ⟨gb814, 0, none⟩ = some (.int .i64 t808) := (blk_cell BK814.out 0).trans rfl
                                      have hcz161_1 : wc.cell? ⟨gb814, 1, none⟩ = some (.int .i64 t809) := (blk_cell BK814.out 1).trans rfl
                                      have hcz161_2 : wc.cell? ⟨gb814, 2, none⟩ = some (.slice Ao37 t826.length co37) := (blk_cell BK814.out 2).trans rfl
                                      have hfz161_0 := blk_frozen BK814.out 0
                                      have hfz161_1 := blk_frozen BK814.out 1
                                      have hfz161_2 := blk_frozen BK814.out 2
                                      go_wp2_with (first | ((with_reducible refine gate_callee (f := 29) rfl ?_); refine goesL_ (some 95) rfl rfl Try.func29 (by kernel_rfl) rfl #[.agg #[.int .i64 t808, .int .i64 t809, .slice Ao37 t826.length co37], .int .i64 1] rfl (by (try simp only [List.map_toArray, List.map_cons, List.map_nil]); first | done | rfl | (simp only [List.length_drop, List.length_take]; rfl)) ?_; (with_reducible refine (laws_heldField.calls kj103 t808 t809 _ _ t826 1 t841 _ ?side1 ?side2 A148.out).mono ?_); (case side1 => repeat (first | exact (Kd.R_reads' HO_815002.out).2.2 | (with_reducible refine Kd.C_alloc ?_ _) | (with_reducible refine Kd.C_drewN ?_ _) | (with_reducible refine Kd.C_drew ?_))); (case side2 => exact (Kd.R_reads' HO_815002.out).2.1); rintro e w162 ⟨rfl, hb⟩; refine ⟨_, rfl, ?_⟩; have n0_ := Aside0.mk (Kd.R_below (by (with_reducible repeat (first | apply Kd.R_alloc | apply Kd.R_drewN | apply Kd.R_drew)); exact HO_802002.out) hb); have n1_ := Aside0.mk (Kd.R_below (by (with_reducible repeat (first | apply Kd.R_alloc | apply Kd.R_drewN | apply Kd.R_drew)); exact HO_808002.out) hb); have n2_ := Aside0.mk (Kd.R_below (by (with_reducible repeat (first | apply Kd.R_alloc | apply Kd.R_drewN | apply Kd.R_drew)); exact HO_815002.out) hb); have n3_ := Aside0.mk (Kd.R_below (by (with_reducible repeat (first | apply Kd.R_alloc | apply Kd.R_drewN | apply Kd.R_drew)); exact HO_840002.out) hb); have n4_ := Aside0.mk (blk_below (g := gb788) (o := .cells #[.int .i64 a0_0, .int .i64 a0_1, .slice A0_2 l0_2.length c0_2] 36 (0, 0)) BK788.out hb); have n5_ := Aside0.mk (blk_below (g := gb801) (o := .cells #[.int .i64 t795, .int .i64 t796, .slice Ao23 t797.length co23] 26 (0, 0)) BK801.out hb); have n6_ := Aside0.mk (blk_below (g := gb807) (o := .cells #[.int .i64 t802, .int .i64 t803, .slice Ao30 t823.length co30] 26 (0, 0)) BK807.out hb); have n7_ := Aside0.mk (blk_below (g := gb814) (o := .cells #[.int .i64 t808, .int .i64 t809, .slice Ao37 t826.length co37] 26 (0, 0)) BK814.out hb); have n8_ := Aside0.mk (blk_below (g := gb839) (o := .cells #[.int .i64 t833, .int .i64 t834, .slice Ao124 t835.length co124] 26 (0, 0)) BK839.out hb); have n9_ := Aside0.mk (below_step (by repeat (first | (with_reducible first | exact HB.out | apply below_alloc | apply pw_below_drewN | apply below_drew1 | refine below_set ?_ GE788.out | refine below_set ?_ GE801.out | refine below_set ?_ GE807.out | refine below_set ?_ GE814.out | refine below_set ?_ GE839.out) | exact HB.out)) hb); clear HO_802002; clear HO_808002; clear HO_815002; clear HO_840002; clear BK788; clear BK801; clear BK807; clear BK814; clear BK839; clear HB; have HO_802002 := n0_; have HO_808002 := n1_; have HO_815002 := n2_; have HO_840002 := n3_; have BK788 := n4_; have BK801 := n5_; have BK807 := n6_; have BK814 := n7_; have BK839 := n8_; have HB := n9_; clear n0_ n1_ n2_ n3_ n4_ n5_ n6_ n7_ n8_ n9_; (try clear hb); (try clear hb2); (try clear hk); (try clear hi)))
                                      go_ret
                                      exact ⟨by first | rfl | (simp [errW_none, errW_some] <;> rfl) | (simp [*, errW_none, errW_some] <;> rfl), by repeat (first | (with_reducible first | exact HB.out | apply below_alloc | apply pw_below_drewN | apply below_drew1 | refine below_set ?_ GE788.out | refine below_set ?_ GE801.out | refine below_set ?_ GE807.out | refine below_set ?_ GE814.out | refine below_set ?_ GE839.out) | exact HB.out)⟩
                                    · rw [if_neg c156] at H
                                      have c156b0 : (t841 == t825) = false := beq_eq_false_iff_ne.mpr c156
                                      have c156b1 : (t841 != t825) = true := bne_iff_ne.mpr c156
                                      obtain rfl := Option.some.inj H
                                      have hnb163 := NB814_788.out
                                      have hnc163 := NB788_814.out
                                      have hnb164 := NB814_801.out
                                      have hnc164 := NB801_814.out
                                      have hnb165 := NB814_807.out
                                      have hnc165 := NB807_814.out
                                      have hnb166 := NB814_839.out
                                      have hnc166 := NB839_814.out
                                      have hcz167_0 : wc.cell? ⟨gb814, 0, none⟩ = some (.int .i64 t808) := (blk_cell BK814.out 0).trans rfl
                                      have hcz167_1 : wc.cell? ⟨gb814, 1, none⟩ = some (.int .i64 t809) := (blk_cell BK814.out 1).trans rfl
                                      have hcz167_2 : wc.cell? ⟨gb814, 2, none⟩ = some (.slice Ao37 t826.length co37) := (blk_cell BK814.out 2).trans rfl
                                      have hfz167_0 := blk_frozen BK814.out 0
                                      have hfz167_1 := blk_frozen BK814.out 1
                                      have hfz167_2 := blk_frozen BK814.out 2
                                      go_wp2_with (first | ((with_reducible refine gate_callee (f := 29) rfl ?_); refine goesL_ (some 95) rfl rfl Try.func29 (by kernel_rfl) rfl #[.agg #[.int .i64 t808, .int .i64 t809, .slice Ao37 t826.length co37], .int .i64 1] rfl (by (try simp only [List.map_toArray, List.map_cons, List.map_nil]); first | done | rfl | (simp only [List.length_drop, List.length_take]; rfl)) ?_; (with_reducible refine (laws_heldField.calls kj103 t808 t809 _ _ t826 1 t841 _ ?side1 ?side2 A148.out).mono ?_); (case side1 => repeat (first | exact (Kd.R_reads' HO_815002.out).2.2 | (with_reducible refine Kd.C_alloc ?_ _) | (with_reducible refine Kd.C_drewN ?_ _) | (with_reducible refine Kd.C_drew ?_))); (case side2 => exact (Kd.R_reads' HO_815002.out).2.1); rintro e w168 ⟨rfl, hb⟩; refine ⟨_, rfl, ?_⟩; have n0_ := Aside0.mk (Kd.R_below (by (with_reducible repeat (first | apply Kd.R_alloc | apply Kd.R_drewN | apply Kd.R_drew)); exact HO_802002.out) hb); have n1_ := Aside0.mk (Kd.R_below (by (with_reducible repeat (first | apply Kd.R_alloc | apply Kd.R_drewN | apply Kd.R_drew)); exact HO_808002.out) hb); have n2_ := Aside0.mk (Kd.R_below (by (with_reducible repeat (first | apply Kd.R_alloc | apply Kd.R_drewN | apply Kd.R_drew)); exact HO_815002.out) hb); have n3_ := Aside0.mk (Kd.R_below (by (with_reducible repeat (first | apply Kd.R_alloc | apply Kd.R_drewN | apply Kd.R_drew)); exact HO_840002.out) hb); have n4_ := Aside0.mk (blk_below (g := gb788) (o := .cells #[.int .i64 a0_0, .int .i64 a0_1, .slice A0_2 l0_2.length c0_2] 36 (0, 0)) BK788.out hb); have n5_ := Aside0.mk (blk_below (g := gb801) (o := .cells #[.int .i64 t795, .int .i64 t796, .slice Ao23 t797.length co23] 26 (0, 0)) BK801.out hb); have n6_ := Aside0.mk (blk_below (g := gb807) (o := .cells #[.int .i64 t802, .int .i64 t803, .slice Ao30 t823.length co30] 26 (0, 0)) BK807.out hb); have n7_ := Aside0.mk (blk_below (g := gb814) (o := .cells #[.int .i64 t808, .int .i64 t809, .slice Ao37 t826.length co37] 26 (0, 0)) BK814.out hb); have n8_ := Aside0.mk (blk_below (g := gb839) (o := .cells #[.int .i64 t833, .int .i64 t834, .slice Ao124 t835.length co124] 26 (0, 0)) BK839.out hb); have n9_ := Aside0.mk (below_step (by repeat (first | (with_reducible first | exact HB.out | apply below_alloc | apply pw_below_drewN | apply below_drew1 | refine below_set ?_ GE788.out | refine below_set ?_ GE801.out | refine below_set ?_ GE807.out | refine below_set ?_ GE814.out | refine below_set ?_ GE839.out) | exact HB.out)) hb); clear HO_802002; clear HO_808002; clear HO_815002; clear HO_840002; clear BK788; clear BK801; clear BK807; clear BK814; clear BK839; clear HB; have HO_802002 := n0_; have HO_808002 := n1_; have HO_815002 := n2_; have HO_840002 := n3_; have BK788 := n4_; have BK801 := n5_; have BK807 := n6_; have BK814 := n7_; have BK839 := n8_; have HB := n9_; clear n0_ n1_ n2_ n3_ n4_ n5_ n6_ n7_ n8_ n9_; (try clear hb); (try clear hb2); (try clear hk); (try clear hi)))
                                      go_ret
                                      exact ⟨by first | rfl | (simp [errW_none, errW_some] <;> rfl) | (simp [*, errW_none, errW_some] <;> rfl), by repeat (first | (with_reducible first | exact HB.out | apply below_alloc | apply pw_below_drewN | apply below_drew1 | refine below_set ?_ GE788.out | refine below_set ?_ GE801.out | refine below_set ?_ GE807.out | refine below_set ?_ GE814.out | refine below_set ?_ GE839.out) | exact HB.out)⟩
                        · rw [if_neg c101] at H
                          have c101b0 : (t827 == t825) = false := beq_eq_false_iff_ne.mpr c101
                          have c101b1 : (t827 != t825) = true := bne_iff_ne.mpr c101
                          obtain rfl := Option.some.inj H
                          have hnb169 := NB814_788.out
                          have hnc169 := NB788_814.out
                          have hnb170 := NB814_801.out
                          have hnc170 := NB801_814.out
                          have hnb171 := NB814_807.out
                          have hnc171 := NB807_814.out
                          have hcz172_0 : wc.cell? ⟨gb814, 0, none⟩ = some (.int .i64 t808) := (blk_cell BK814.out 0).trans rfl
                          have hcz172_1 : wc.cell? ⟨gb814, 1, none⟩ = some (.int .i64 t809) := (blk_cell BK814.out 1).trans rfl
                          have hcz172_2 : wc.cell? ⟨gb814, 2, none⟩ = some (.slice Ao37 t810.length co37) := (blk_cell BK814.out 2).trans rfl
                          have hfz172_0 := blk_frozen BK814.out 0
                          have hfz172_1 := blk_frozen BK814.out 1
                          have hfz172_2 := blk_frozen BK814.out 2
                          go_wp2_with (first | ((with_reducible refine gate_callee (f := 27) rfl ?_); refine goesL_ (some 68) rfl rfl Try.func27 (by kernel_rfl) rfl #[.agg #[.int .i64 t808, .int .i64 t809, .slice Ao37 t810.length co37], .int .i64 1] rfl (by (try simp only [List.map_toArray, List.map_cons, List.map_nil]); first | done | rfl | (simp only [List.length_drop, List.length_take]; rfl)) ?_; (with_reducible refine (laws_markField.calls kj60 t808 t809 (fun k_ => some k_ = (.slice Ao37 t810.length co37 : Value).ownBlock) (.slice Ao37 t810.length co37) t810 1 t825 t826 w _ ?side1 ?side2 A91.out).mono ?_); (case side1 => repeat (first | (with_reducible first | exact HB.out | apply below_alloc | apply pw_below_drewN | apply below_drew1 | refine below_set ?_ GE788.out | refine below_set ?_ GE801.out | refine below_set ?_ GE807.out | refine below_set ?_ GE814.out) | exact HB.out)); (case side2 => exact Kd.R_tight rfl HO_815002.out); rintro e w173 ⟨rfl, hy0, hb, hkp⟩; refine ⟨_, rfl, ?_⟩; have n0_ := Aside0.mk (Kd.R_mono (ok' := fun k_ => some k_ ≠ (.slice Ao30 t823.length co30 : Value).ownBlock ∧ some k_ ≠ (.slice Ao37 t810.length co37 : Value).ownBlock) (Kd.R_keptB (HO_802002.out) hkp (fun k_ hk_ hs_ => (hk_.2) hs_)) (fun k_ hk_ => ⟨hk_.1.1, hk_.1.2⟩)); have n1_ := Aside0.mk (Kd.R_mono (ok' := fun k_ => some k_ ≠ (.slice Ao23 t797.length co23 : Value).ownBlock ∧ some k_ ≠ (.slice Ao37 t810.length co37 : Value).ownBlock) (Kd.R_keptB (HO_808002.out) hkp (fun k_ hk_ hs_ => (hk_.2) hs_)) (fun k_ hk_ => ⟨hk_.1.1, hk_.1.2⟩)); have n2_ := Aside0.mk (Kd.R_reok rfl hy0 (fun k_ e_ => HO_815002.out.1 k_ e_)); have n3_ := Aside0.mk (blk_kept BK788.out hkp (fun hs_ => (fun e_ => (Kd.R_ne HO_815002.out BK788.out (by decide)) e_) hs_)); have n4_ := Aside0.mk (blk_kept BK801.out hkp (fun hs_ => (fun e_ => (Kd.R_ne HO_815002.out BK801.out (by decide)) e_) hs_)); have n5_ := Aside0.mk (blk_kept BK807.out hkp (fun hs_ => (fun e_ => (Kd.R_ne HO_815002.out BK807.out (by decide)) e_) hs_)); have n6_ := Aside0.mk (blk_kept BK814.out hkp (fun hs_ => (fun e_ => (Kd.R_ne HO_815002.out BK814.out (by decide)) e_) hs_)); have n7_ := Aside0.mk (hb); clear HO_802002; clear HO_808002; clear HO_815002; clear BK788; clear BK801; clear BK807; clear BK814; clear HB; have HO_802002 := n0_; have HO_808002 := n1_; have HO_815002 := n2_; have BK788 := n3_; have BK801 := n4_; have BK807 := n5_; have BK814 := n6_; have HB := n7_; clear n0_ n1_ n2_ n3_ n4_ n5_ n6_ n7_; (try clear hb); (try clear hkp); (try clear hy0); have hcz174_0 : w173.cell? ⟨gb814, 0, none⟩ = some (.int .i64 t808) := (blk_cell BK814.out 0).trans rfl; have hcz174_1 : w173.cell? ⟨gb814, 1, none⟩ = some (.int .i64 t809) := (blk_cell BK814.out 1).trans rfl; have hcz174_2 : w173.cell? ⟨gb814, 2, none⟩ = some (.slice Ao37 t810.length co37) := (blk_cell BK814.out 2).trans rfl; have hfz174_0 := blk_frozen BK814.out 0; have hfz174_1 := blk_frozen BK814.out 1; have hfz174_2 := blk_frozen BK814.out 2) | ((with_reducible refine gate_callee (f := 29) rfl ?_); refine goesL_ (some 71) rfl rfl Try.func29 (by kernel_rfl) rfl #[.agg #[.int .i64 t808, .int .i64 t809, .slice Ao37 t826.length co37], .int .i64 1] rfl (by (try simp only [List.map_toArray, List.map_cons, List.map_nil]); first | done | (rw [show t826.length = t810.length from (Kd.R_reads' HO_815002.out).1.symm] <;> rfl) | rfl | (simp only [List.length_drop, List.length_take]; rfl)) ?_; (with_reducible refine (laws_heldField.calls kj60 t808 t809 _ _ t826 1 t827 _ ?side1 ?side2 A92.out).mono ?_); (case side1 => repeat (first | exact (Kd.R_reads' HO_815002.out).2.2 | (with_reducible refine Kd.C_alloc ?_ _) | (with_reducible refine Kd.C_drewN ?_ _) | (with_reducible refine Kd.C_drew ?_))); (case side2 => rw [show t826.length = t810.length from (Kd.R_reads' HO_815002.out).1.symm]; exact (Kd.R_reads' HO_815002.out).2.1); rintro e w175 ⟨rfl, hb⟩; refine ⟨_, rfl, ?_⟩; have n0_ := Aside0.mk (Kd.R_below (by (with_reducible repeat (first | apply Kd.R_alloc | apply Kd.R_drewN | apply Kd.R_drew)); exact HO_802002.out) hb); have n1_ := Aside0.mk (Kd.R_below (by (with_reducible repeat (first | apply Kd.R_alloc | apply Kd.R_drewN | apply Kd.R_drew)); exact HO_808002.out) hb); have n2_ := Aside0.mk (Kd.R_below (by (with_reducible repeat (first | apply Kd.R_alloc | apply Kd.R_drewN | apply Kd.R_drew)); exact HO_815002.out) hb); have n3_ := Aside0.mk (blk_below (g := gb788) (o := .cells #[.int .i64 a0_0, .int .i64 a0_1, .slice A0_2 l0_2.length c0_2] 36 (0, 0)) BK788.out hb); have n4_ := Aside0.mk (blk_below (g := gb801) (o := .cells #[.int .i64 t795, .int .i64 t796, .slice Ao23 t797.length co23] 26 (0, 0)) BK801.out hb); have n5_ := Aside0.mk (blk_below (g := gb807) (o := .cells #[.int .i64 t802, .int .i64 t803, .slice Ao30 t823.length co30] 26 (0, 0)) BK807.out hb); have n6_ := Aside0.mk (blk_below (g := gb814) (o := .cells #[.int .i64 t808, .int .i64 t809, .slice Ao37 t810.length co37] 26 (0, 0)) BK814.out hb); have n7_ := Aside0.mk (below_step (by repeat (first | (with_reducible first | exact HB.out | apply below_alloc | apply pw_below_drewN | apply below_drew1 | refine below_set ?_ GE788.out | refine below_set ?_ GE801.out | refine below_set ?_ GE807.out | refine below_set ?_ GE814.out) | exact HB.out)) hb); clear HO_802002; clear HO_808002; clear HO_815002; clear BK788; clear BK801; clear BK807; clear BK814; clear HB; have HO_802002 := n0_; have HO_808002 := n1_; have HO_815002 := n2_; have BK788 := n3_; have BK801 := n4_; have BK807 := n5_; have BK814 := n6_; have HB := n7_; clear n0_ n1_ n2_ n3_ n4_ n5_ n6_ n7_; (try clear hb); (try clear hb2); (try clear hk); (try clear hi)))
                          go_ret
                          exact ⟨by first | rfl | (simp [errW_none, errW_some] <;> rfl) | (simp [*, errW_none, errW_some] <;> rfl), by repeat (first | (with_reducible first | exact HB.out | apply below_alloc | apply pw_below_drewN | apply below_drew1 | refine below_set ?_ GE788.out | refine below_set ?_ GE801.out | refine below_set ?_ GE807.out | refine below_set ?_ GE814.out) | exact HB.out)⟩
            · replace c59 := Bool.eq_false_iff.mpr c59
              subst c59
              have H1 : (some false) = some r := by rw [if_neg (show ¬ (false = true) by decide)] at H; exact H
              exact absurd ((Option.some.inj H1).trans hrt_) (by decide)
end Go.Proofs.Ytdmkbfjipgaloaa.P
