-- Made by pp.py of this session out of the kit's print and of contracts proved by hand; Lean checks it.
import Derived.Test.YtdmkbfjipgaloaaPx0
import Derived.Test.YtdmkbfjipgaloaaPx7
import Derived.Test.YtdmkbfjipgaloaaPx27
import Derived.Test.YtdmkbfjipgaloaaPx28
namespace Go.Proofs.Ytdmkbfjipgaloaa.P
open Go.RowKit Go.Proofs.YtdmkbfjipgaloaaW.PrintWords Go.Proofs.YtdmkbfjipgaloaaW.PrintLast Go.Proofs.YtdmkbfjipgaloaaW.PrintMore
attribute [local go_sem] max2_int min2_int max_two min_two max_three min_three max_four min_four   -- for this text's walks alone
set_option linter.unusedVariables false
set_option linter.unusedSimpArgs false

/-! ### laws_FnExactSpreadMean: function 9 -/
mutual
def laws_FnExactSpreadMean.j0 : Nat → List Int → Bool → List Int → Bool → Bool → Int → Int → List Int → Int → Int → List Int → Int → Int → List Int → Int → Int → List Int → Option (Bool)
  | 0, _, _, _, _, _, _, _, _, _, _, _, _, _, _, _, _, _ => none
  | k + 1, x1, x7, x9, x11, x51, x966000, x966001, x966002, x982000, x982001, x982002, x988000, x988001, x988002, x998000, x998001, x998002 => if x51 = true then (some false) else ((laws_toField.f k x966000 x966001 x966002).bind fun bt999 => ((laws_eqField.f k x988000 x988001 x988002 bt999.1 bt999.2.1 bt999.2.2).bind fun t1004 => (if t1004 = true then ((laws_toIntS.f k x1).bind fun t1005 => ((laws_eqIntS.f k x9 t1005).bind fun t1008 => (if t1008 = true then ((laws_markField.f k x988000 x988001 x988002 1).bind fun bt1009 => ((laws_markIntS.f k x9 bt1009.1).bind fun bt1011 => (if bt1011.1 < 0 then (laws_FnExactSpreadMean.j1 k x1 x7 true x966000 x966001 x966002 x982000 x982001 x982002 x998000 x998001 x998002) else ((laws_eqField.f k x998000 x998001 x998002 x982000 x982001 x982002).bind fun t1013 => (if t1013 = true then (laws_FnExactSpreadMean.j1 k x1 x7 (x11 != x7) x966000 x966001 x966002 x982000 x982001 x982002 x998000 x998001 x998002) else (laws_FnExactSpreadMean.j1 k x1 x7 true x966000 x966001 x966002 x982000 x982001 x982002 x998000 x998001 x998002)))))) else (some false)))) else (some false))))
def laws_FnExactSpreadMean.j1 : Nat → List Int → Bool → Bool → Int → Int → List Int → Int → Int → List Int → Int → Int → List Int → Option (Bool)
  | 0, _, _, _, _, _, _, _, _, _, _, _, _ => none
  | k + 1, x1, x7, x80, x966000, x966001, x966002, x982000, x982001, x982002, x998000, x998001, x998002 => if x80 = true then (some false) else ((laws_markField.f k x998000 x998001 x998002 1).bind fun bt1014 => ((laws_heldField.f k x998000 x998001 bt1014.2 1).bind fun t1016 => (if t1016 < 0 then (some false) else (if t1016 = bt1014.1 then ((laws_toField.f k x966000 x966001 x966002).bind fun bt1017 => ((laws_toIntS.f k x1).bind fun t1022 => ((impl_SpreadMean.f k bt1017.1 bt1017.2.1 bt1017.2.2 t1022).bind fun bt1025 => ((laws_eqField.f k bt1025.1 bt1025.2.1 bt1025.2.2.1 x982000 x982001 x982002).bind fun t1032 => (if t1032 = true then (laws_FnExactSpreadMean.j2 k bt1014.1 (bt1025.2.2.2 != x7) x998000 x998001 bt1014.2) else (laws_FnExactSpreadMean.j2 k bt1014.1 true x998000 x998001 bt1014.2)))))) else (some false)))))
def laws_FnExactSpreadMean.j2 : Nat → Int → Bool → Int → Int → List Int → Option (Bool)
  | 0, _, _, _, _, _ => none
  | k + 1, x13, x108, x998000, x998001, x998002 => if x108 = true then (some false) else ((laws_heldField.f k x998000 x998001 x998002 1).bind fun t1033 => (if t1033 < 0 then (some false) else (if t1033 = x13 then (some true) else (some false))))
end
def laws_FnExactSpreadMean.f (k : Nat) (a0_0 : Int) (a0_1 : Int) (l0_2 : List Int) (l1 : List Int) : Option (Bool) := if (l1.length : Int) > 1048576 then (some true) else ((laws_szField.f a0_0 a0_1 l0_2 1048576).bind fun t966 => (if t966 < 0 then (some true) else ((laws_toField.f k a0_0 a0_1 l0_2).bind fun bt967 => ((laws_toIntS.f k l1).bind fun t972 => ((spec_SpreadMean.f k bt967.1 bt967.2.1 bt967.2.2 t972).bind fun bt975 => ((laws_toField.f k a0_0 a0_1 l0_2).bind fun bt982 => ((laws_toIntS.f k l1).bind fun t988 => ((impl_SpreadMean.f k bt982.1 bt982.2.1 bt982.2.2 t988).bind fun bt991 => ((laws_eqField.f k bt991.1 bt991.2.1 bt991.2.2.1 bt975.1 bt975.2.1 bt975.2.2.1).bind fun t998 => (if t998 = true then (laws_FnExactSpreadMean.j0 k l1 bt975.2.2.2 t988 bt991.2.2.2 (bt991.2.2.2 != bt975.2.2.2) a0_0 a0_1 l0_2 bt975.1 bt975.2.1 bt975.2.2.1 bt982.1 bt982.2.1 bt982.2.2 bt991.1 bt991.2.1 bt991.2.2.1) else (laws_FnExactSpreadMean.j0 k l1 bt975.2.2.2 t988 bt991.2.2.2 true a0_0 a0_1 l0_2 bt975.1 bt975.2.1 bt975.2.2.1 bt982.1 bt982.2.1 bt982.2.2 bt991.1 bt991.2.1 bt991.2.2.1)))))))))))
theorem laws_FnExactSpreadMean.mono_l : ∀ k, (∀ y0 y1 y2 y3 y4 y5 y6 y7 y8 y9 y10 y11 y12 y13 y14 y15 y16, LeO (laws_FnExactSpreadMean.j0 k y0 y1 y2 y3 y4 y5 y6 y7 y8 y9 y10 y11 y12 y13 y14 y15 y16) (laws_FnExactSpreadMean.j0 (k + 1) y0 y1 y2 y3 y4 y5 y6 y7 y8 y9 y10 y11 y12 y13 y14 y15 y16)) ∧ (∀ y0 y1 y2 y3 y4 y5 y6 y7 y8 y9 y10 y11, LeO (laws_FnExactSpreadMean.j1 k y0 y1 y2 y3 y4 y5 y6 y7 y8 y9 y10 y11) (laws_FnExactSpreadMean.j1 (k + 1) y0 y1 y2 y3 y4 y5 y6 y7 y8 y9 y10 y11)) ∧ (∀ y0 y1 y2 y3 y4, LeO (laws_FnExactSpreadMean.j2 k y0 y1 y2 y3 y4) (laws_FnExactSpreadMean.j2 (k + 1) y0 y1 y2 y3 y4))
  | 0 => ⟨fun _ _ _ _ _ _ _ _ _ _ _ _ _ _ _ _ _ r h => by simp [laws_FnExactSpreadMean.j0] at h, fun _ _ _ _ _ _ _ _ _ _ _ _ r h => by simp [laws_FnExactSpreadMean.j1] at h, fun _ _ _ _ _ r h => by simp [laws_FnExactSpreadMean.j2] at h⟩
  | k + 1 => by
    obtain ⟨ih0, ih1, ih2⟩ := laws_FnExactSpreadMean.mono_l k
    refine ⟨?_, ?_, ?_⟩
    · intro y0 y1 y2 y3 y4 y5 y6 y7 y8 y9 y10 y11 y12 y13 y14 y15 y16
      unfold laws_FnExactSpreadMean.j0
      repeat' first
      | (with_reducible exact ih0 _ _ _ _ _ _ _ _ _ _ _ _ _ _ _ _ _)
      | (with_reducible exact ih1 _ _ _ _ _ _ _ _ _ _ _ _)
      | (with_reducible exact ih2 _ _ _ _ _)
      | (with_reducible exact impl_SpreadMean.mono _ _ _ _ _)
      | (with_reducible exact laws_eqField.mono _ _ _ _ _ _ _)
      | (with_reducible exact laws_eqIntS.mono _ _ _)
      | (with_reducible exact laws_heldField.mono _ _ _ _ _)
      | (with_reducible exact laws_markField.mono _ _ _ _ _)
      | (with_reducible exact laws_markIntS.mono _ _ _)
      | (with_reducible exact laws_toField.mono _ _ _ _)
      | (with_reducible exact laws_toIntS.mono _ _)
      | (with_reducible exact spec_SpreadMean.mono _ _ _ _ _)
      | (with_reducible exact LeO.refl _)
      | (with_reducible exact LeO.none _)
      | (with_reducible refine LeO.ite ?_ ?_)
      | (with_reducible refine LeO.bind ?_ (fun _ => ?_))
      | exact ih0 _ _ _ _ _ _ _ _ _ _ _ _ _ _ _ _ _
      | exact ih1 _ _ _ _ _ _ _ _ _ _ _ _
      | exact ih2 _ _ _ _ _
      | exact impl_SpreadMean.mono _ _ _ _ _
      | exact laws_eqField.mono _ _ _ _ _ _ _
      | exact laws_eqIntS.mono _ _ _
      | exact laws_heldField.mono _ _ _ _ _
      | exact laws_markField.mono _ _ _ _ _
      | exact laws_markIntS.mono _ _ _
      | exact laws_toField.mono _ _ _ _
      | exact laws_toIntS.mono _ _
      | exact spec_SpreadMean.mono _ _ _ _ _
      | exact LeO.none _
      | refine LeO.ite ?_ ?_
      | refine LeO.bind ?_ (fun _ => ?_)
    · intro y0 y1 y2 y3 y4 y5 y6 y7 y8 y9 y10 y11
      unfold laws_FnExactSpreadMean.j1
      repeat' first
      | (with_reducible exact ih0 _ _ _ _ _ _ _ _ _ _ _ _ _ _ _ _ _)
      | (with_reducible exact ih1 _ _ _ _ _ _ _ _ _ _ _ _)
      | (with_reducible exact ih2 _ _ _ _ _)
      | (with_reducible exact impl_SpreadMean.mono _ _ _ _ _)
      | (with_reducible exact laws_eqField.mono _ _ _ _ _ _ _)
      | (with_reducible exact laws_eqIntS.mono _ _ _)
      | (with_reducible exact laws_heldField.mono _ _ _ _ _)
      | (with_reducible exact laws_markField.mono _ _ _ _ _)
      | (with_reducible exact laws_markIntS.mono _ _ _)
      | (with_reducible exact laws_toField.mono _ _ _ _)
      | (with_reducible exact laws_toIntS.mono _ _)
      | (with_reducible exact spec_SpreadMean.mono _ _ _ _ _)
      | (with_reducible exact LeO.refl _)
      | (with_reducible exact LeO.none _)
      | (with_reducible refine LeO.ite ?_ ?_)
      | (with_reducible refine LeO.bind ?_ (fun _ => ?_))
      | exact ih0 _ _ _ _ _ _ _ _ _ _ _ _ _ _ _ _ _
      | exact ih1 _ _ _ _ _ _ _ _ _ _ _ _
      | exact ih2 _ _ _ _ _
      | exact impl_SpreadMean.mono _ _ _ _ _
      | exact laws_eqField.mono _ _ _ _ _ _ _
      | exact laws_eqIntS.mono _ _ _
      | exact laws_heldField.mono _ _ _ _ _
      | exact laws_markField.mono _ _ _ _ _
      | exact laws_markIntS.mono _ _ _
      | exact laws_toField.mono _ _ _ _
      | exact laws_toIntS.mono _ _
      | exact spec_SpreadMean.mono _ _ _ _ _
      | exact LeO.none _
      | refine LeO.ite ?_ ?_
      | refine LeO.bind ?_ (fun _ => ?_)
    · intro y0 y1 y2 y3 y4
      unfold laws_FnExactSpreadMean.j2
      repeat' first
      | (with_reducible exact ih0 _ _ _ _ _ _ _ _ _ _ _ _ _ _ _ _ _)
      | (with_reducible exact ih1 _ _ _ _ _ _ _ _ _ _ _ _)
      | (with_reducible exact ih2 _ _ _ _ _)
      | (with_reducible exact impl_SpreadMean.mono _ _ _ _ _)
      | (with_reducible exact laws_eqField.mono _ _ _ _ _ _ _)
      | (with_reducible exact laws_eqIntS.mono _ _ _)
      | (with_reducible exact laws_heldField.mono _ _ _ _ _)
      | (with_reducible exact laws_markField.mono _ _ _ _ _)
      | (with_reducible exact laws_markIntS.mono _ _ _)
      | (with_reducible exact laws_toField.mono _ _ _ _)
      | (with_reducible exact laws_toIntS.mono _ _)
      | (with_reducible exact spec_SpreadMean.mono _ _ _ _ _)
      | (with_reducible exact LeO.refl _)
      | (with_reducible exact LeO.none _)
      | (with_reducible refine LeO.ite ?_ ?_)
      | (with_reducible refine LeO.bind ?_ (fun _ => ?_))
      | exact ih0 _ _ _ _ _ _ _ _ _ _ _ _ _ _ _ _ _
      | exact ih1 _ _ _ _ _ _ _ _ _ _ _ _
      | exact ih2 _ _ _ _ _
      | exact impl_SpreadMean.mono _ _ _ _ _
      | exact laws_eqField.mono _ _ _ _ _ _ _
      | exact laws_eqIntS.mono _ _ _
      | exact laws_heldField.mono _ _ _ _ _
      | exact laws_markField.mono _ _ _ _ _
      | exact laws_markIntS.mono _ _ _
      | exact laws_toField.mono _ _ _ _
      | exact laws_toIntS.mono _ _
      | exact spec_SpreadMean.mono _ _ _ _ _
      | exact LeO.none _
      | refine LeO.ite ?_ ?_
      | refine LeO.bind ?_ (fun _ => ?_)
theorem laws_FnExactSpreadMean.mono : ∀ a0 a1 a2 a3 k, LeO (laws_FnExactSpreadMean.f k a0 a1 a2 a3) (laws_FnExactSpreadMean.f (k + 1) a0 a1 a2 a3) := by
  intro a0 a1 a2 a3 k
  obtain ⟨ih0, ih1, ih2⟩ := laws_FnExactSpreadMean.mono_l k
  unfold laws_FnExactSpreadMean.f
  repeat' first
      | (with_reducible exact ih0 _ _ _ _ _ _ _ _ _ _ _ _ _ _ _ _ _)
      | (with_reducible exact ih1 _ _ _ _ _ _ _ _ _ _ _ _)
      | (with_reducible exact ih2 _ _ _ _ _)
      | (with_reducible exact impl_SpreadMean.mono _ _ _ _ _)
      | (with_reducible exact laws_eqField.mono _ _ _ _ _ _ _)
      | (with_reducible exact laws_eqIntS.mono _ _ _)
      | (with_reducible exact laws_heldField.mono _ _ _ _ _)
      | (with_reducible exact laws_markField.mono _ _ _ _ _)
      | (with_reducible exact laws_markIntS.mono _ _ _)
      | (with_reducible exact laws_toField.mono _ _ _ _)
      | (with_reducible exact laws_toIntS.mono _ _)
      | (with_reducible exact spec_SpreadMean.mono _ _ _ _ _)
      | (with_reducible exact LeO.refl _)
      | (with_reducible exact LeO.none _)
      | (with_reducible refine LeO.ite ?_ ?_)
      | (with_reducible refine LeO.bind ?_ (fun _ => ?_))
      | exact ih0 _ _ _ _ _ _ _ _ _ _ _ _ _ _ _ _ _
      | exact ih1 _ _ _ _ _ _ _ _ _ _ _ _
      | exact ih2 _ _ _ _ _
      | exact impl_SpreadMean.mono _ _ _ _ _
      | exact laws_eqField.mono _ _ _ _ _ _ _
      | exact laws_eqIntS.mono _ _ _
      | exact laws_heldField.mono _ _ _ _ _
      | exact laws_markField.mono _ _ _ _ _
      | exact laws_markIntS.mono _ _ _
      | exact laws_toField.mono _ _ _ _
      | exact laws_toIntS.mono _ _
      | exact spec_SpreadMean.mono _ _ _ _ _
      | exact LeO.none _
      | refine LeO.ite ?_ ?_
      | refine LeO.bind ?_ (fun _ => ?_)
set_option maxHeartbeats 8000000 in
set_option maxRecDepth 100000 in
theorem laws_FnExactSpreadMean.calls (k : Nat) (a0_0 : Int) (a0_1 : Int) (A0_2 : Option Addr) (c0_2 : Nat) (l0_2 : List Int) (A1 : Option Addr) (c1 : Nat) (l1 : List Int) (r : Bool) (w : World) (hr0_2 : Kd.C (Kd.int .i64) w A0_2 l0_2.length l0_2) (hc0_2 : l0_2.length ≤ c0_2) (hr1 : Kd.C (Kd.int .i64) w A1 l1.length l1) (hc1 : l1.length ≤ c1) (h : laws_FnExactSpreadMean.f k a0_0 a0_1 l0_2 l1 = some r) (hrt_ : r = true) :
    Calls Try.prog 9 #[.agg #[.int .i64 a0_0, .int .i64 a0_1, .slice A0_2 l0_2.length c0_2], .slice A1 l1.length c1] w fun e w' => e = .returned (.bool r) ∧ Below w.heap.size w w' := by
  have hu36 := Try.underlying36
  have hu26 := Try.underlying26
  have HR0_2 := Aside0.mk hr0_2
  have HC0_2 := Aside0.mk hc0_2
  clear hr0_2 hc0_2
  have HR1 := Aside0.mk hr1
  have HC1 := Aside0.mk hc1
  clear hr1 hc1
  have HB := Aside0.mk (Below.refl w.heap.size w)
  have H : (if (l1.length : Int) > 1048576 then (some true) else ((laws_szField.f a0_0 a0_1 l0_2 1048576).bind fun t966 => (if t966 < 0 then (some true) else ((laws_toField.f k a0_0 a0_1 l0_2).bind fun bt967 => ((laws_toIntS.f k l1).bind fun t972 => ((spec_SpreadMean.f k bt967.1 bt967.2.1 bt967.2.2 t972).bind fun bt975 => ((laws_toField.f k a0_0 a0_1 l0_2).bind fun bt982 => ((laws_toIntS.f k l1).bind fun t988 => ((impl_SpreadMean.f k bt982.1 bt982.2.1 bt982.2.2 t988).bind fun bt991 => ((laws_eqField.f k bt991.1 bt991.2.1 bt991.2.2.1 bt975.1 bt975.2.1 bt975.2.2.1).bind fun t998 => (if t998 = true then (laws_FnExactSpreadMean.j0 k l1 bt975.2.2.2 t988 bt991.2.2.2 (bt991.2.2.2 != bt975.2.2.2) a0_0 a0_1 l0_2 bt975.1 bt975.2.1 bt975.2.2.1 bt982.1 bt982.2.1 bt982.2.2 bt991.1 bt991.2.1 bt991.2.2.1) else (laws_FnExactSpreadMean.j0 k l1 bt975.2.2.2 t988 bt991.2.2.2 true a0_0 a0_1 l0_2 bt975.1 bt975.2.1 bt975.2.2.1 bt982.1 bt982.2.1 bt982.2.2 bt991.1 bt991.2.1 bt991.2.2.1)))))))))))) = some r := h
  clear h
  by_cases c3 : (l1.length : Int) > 1048576
  · rw [if_pos c3] at H
    have c3b0 : decide (1048576 < (l1.length : Int)) = true := decide_eq_true c3
    have c3b1 : decide (1048576 < l1.length) = true := decide_eq_true (by omega)
    clear c3
    obtain rfl := Option.some.inj H
    go_enter Try.func9, Try.ntmps9
    go_wp2_with (first | ((with_reducible refine gate_dst (N := 2) rfl ?_); refine box_event ?hg (N := 2) ?hd (cs := #[.int .i64 a0_0, .int .i64 a0_1, .slice A0_2 l0_2.length c0_2]) (t := 36) ?hr ?_; (case hd => rfl); (case hg => rfl); (case hr => first | (go_simp; done) | (go_simp; rfl)); intro gb965 hg w4 hbox hb; have n0_ := Aside0.mk (below_step (by repeat (first | (with_reducible first | exact HB.out | apply below_alloc | apply pw_below_drewN | apply below_drew1) | exact HB.out)) hb); have n1_ := Aside0.mk (hbox); have n2_ := Aside0.mk ((by rw [hg]; exact (below_size (by repeat (first | (with_reducible first | exact HB.out | apply below_alloc | apply pw_below_drewN | apply below_drew1) | exact HB.out))) : w.heap.size ≤ gb965)); have n3_ := Aside0.mk ((by rw [hg]; exact (below_size (by repeat (first | (with_reducible first | exact HB.out | apply below_alloc | apply pw_below_drewN | apply below_drew1) | exact HB.out))) : w.heap.size ≤ gb965)); clear HB; have HB := n0_; have BK965 := n1_; have GW965 := n2_; have GE965 := n3_; clear n0_ n1_ n2_ n3_; clear hb hbox hg))
    go_ret
    exact ⟨by first | rfl | (simp [errW_none, errW_some] <;> rfl) | (simp [*, errW_none, errW_some] <;> rfl), by repeat (first | (with_reducible first | exact HB.out | apply below_alloc | apply pw_below_drewN | apply below_drew1 | refine below_set ?_ GE965.out) | exact HB.out)⟩
  · rw [if_neg c3] at H
    have c3b0 : decide (1048576 < (l1.length : Int)) = false := decide_eq_false c3
    have c3b1 : decide (1048576 < l1.length) = false := decide_eq_false (by omega)
    clear c3
    replace H := Option.bind_eq_some_iff.mp H
    obtain ⟨t966, A50, H⟩ := H
    replace H : (if t966 < 0 then (some true) else ((laws_toField.f k a0_0 a0_1 l0_2).bind fun bt967 => ((laws_toIntS.f k l1).bind fun t972 => ((spec_SpreadMean.f k bt967.1 bt967.2.1 bt967.2.2 t972).bind fun bt975 => ((laws_toField.f k a0_0 a0_1 l0_2).bind fun bt982 => ((laws_toIntS.f k l1).bind fun t988 => ((impl_SpreadMean.f k bt982.1 bt982.2.1 bt982.2.2 t988).bind fun bt991 => ((laws_eqField.f k bt991.1 bt991.2.1 bt991.2.2.1 bt975.1 bt975.2.1 bt975.2.2.1).bind fun t998 => (if t998 = true then (laws_FnExactSpreadMean.j0 k l1 bt975.2.2.2 t988 bt991.2.2.2 (bt991.2.2.2 != bt975.2.2.2) a0_0 a0_1 l0_2 bt975.1 bt975.2.1 bt975.2.2.1 bt982.1 bt982.2.1 bt982.2.2 bt991.1 bt991.2.1 bt991.2.2.1) else (laws_FnExactSpreadMean.j0 k l1 bt975.2.2.2 t988 bt991.2.2.2 true a0_0 a0_1 l0_2 bt975.1 bt975.2.1 bt975.2.2.1 bt982.1 bt982.2.1 bt982.2.2 bt991.1 bt991.2.1 bt991.2.2.1)))))))))) = some r := H
    have A5 := Aside0.mk A50
    clear A50
    by_cases c6 : t966 < 0
    · rw [if_pos c6] at H
      have c6b0 : decide (t966 < 0) = true := decide_eq_true c6
      clear c6
      obtain rfl := Option.some.inj H
      go_enter Try.func9, Try.ntmps9
      go_wp2_with (first | ((with_reducible refine gate_dst (N := 2) rfl ?_); refine box_event ?hg (N := 2) ?hd (cs := #[.int .i64 a0_0, .int .i64 a0_1, .slice A0_2 l0_2.length c0_2]) (t := 36) ?hr ?_; (case hd => rfl); (case hg => rfl); (case hr => first | (go_simp; done) | (go_simp; rfl)); intro gb965 hg w7 hbox hb; have n0_ := Aside0.mk (below_step (by repeat (first | (with_reducible first | exact HB.out | apply below_alloc | apply pw_below_drewN | apply below_drew1) | exact HB.out)) hb); have n1_ := Aside0.mk (hbox); have n2_ := Aside0.mk ((by rw [hg]; exact (below_size (by repeat (first | (with_reducible first | exact HB.out | apply below_alloc | apply pw_below_drewN | apply below_drew1) | exact HB.out))) : w.heap.size ≤ gb965)); have n3_ := Aside0.mk ((by rw [hg]; exact (below_size (by repeat (first | (with_reducible first | exact HB.out | apply below_alloc | apply pw_below_drewN | apply below_drew1) | exact HB.out))) : w.heap.size ≤ gb965)); clear HB; have HB := n0_; have BK965 := n1_; have GW965 := n2_; have GE965 := n3_; clear n0_ n1_ n2_ n3_; clear hb hbox hg; have hcz8_0 : w7.cell? ⟨gb965, 0, none⟩ = some (.int .i64 a0_0) := (blk_cell BK965.out 0).trans rfl; have hcz8_1 : w7.cell? ⟨gb965, 1, none⟩ = some (.int .i64 a0_1) := (blk_cell BK965.out 1).trans rfl; have hcz8_2 : w7.cell? ⟨gb965, 2, none⟩ = some (.slice A0_2 l0_2.length c0_2) := (blk_cell BK965.out 2).trans rfl; have hfz8_0 := blk_frozen BK965.out 0; have hfz8_1 := blk_frozen BK965.out 1; have hfz8_2 := blk_frozen BK965.out 2) | ((with_reducible refine gate_callee (f := 20) rfl ?_); refine goesL_ (some 22) rfl rfl Try.func20 (by kernel_rfl) rfl #[.agg #[.int .i64 a0_0, .int .i64 a0_1, .slice A0_2 l0_2.length c0_2], .int .i64 1048576] rfl (by (try simp only [List.map_toArray, List.map_cons, List.map_nil]); first | done | rfl | (simp only [List.length_drop, List.length_take]; rfl)) ?_; (with_reducible refine (laws_szField.calls a0_0 a0_1 _ _ l0_2 1048576 t966 _ ?side1 ?side2 A5.out).mono ?_); (case side1 => repeat (first | exact (Kd.C_below HR0_2.out HB.out) | (with_reducible refine Kd.C_alloc ?_ _) | (with_reducible refine Kd.C_drewN ?_ _) | (with_reducible refine Kd.C_drew ?_))); (case side2 => exact HC0_2.out); rintro e w9 ⟨rfl, hb⟩; refine ⟨_, rfl, ?_⟩; have n0_ := Aside0.mk (blk_below (g := gb965) (o := .cells #[.int .i64 a0_0, .int .i64 a0_1, .slice A0_2 l0_2.length c0_2] 36 (0, 0)) BK965.out hb); have n1_ := Aside0.mk (below_step (by repeat (first | (with_reducible first | exact HB.out | apply below_alloc | apply pw_below_drewN | apply below_drew1 | refine below_set ?_ GE965.out) | exact HB.out)) hb); clear BK965; clear HB; have BK965 := n0_; have HB := n1_; clear n0_ n1_; (try clear hb); (try clear hb2); (try clear hk); (try clear hi)))
      go_ret
      exact ⟨by first | rfl | (simp [errW_none, errW_some] <;> rfl) | (simp [*, errW_none, errW_some] <;> rfl), by repeat (first | (with_reducible first | exact HB.out | apply below_alloc | apply pw_below_drewN | apply below_drew1 | refine below_set ?_ GE965.out) | exact HB.out)⟩
    · rw [if_neg c6] at H
      have c6b0 : decide (t966 < 0) = false := decide_eq_false c6
      clear c6
      replace H := Option.bind_eq_some_iff.mp H
      obtain ⟨⟨t967, t968, t969⟩, A100, H⟩ := H
      replace H : ((laws_toIntS.f k l1).bind fun t972 => ((spec_SpreadMean.f k t967 t968 t969 t972).bind fun bt975 => ((laws_toField.f k a0_0 a0_1 l0_2).bind fun bt982 => ((laws_toIntS.f k l1).bind fun t988 => ((impl_SpreadMean.f k bt982.1 bt982.2.1 bt982.2.2 t988).bind fun bt991 => ((laws_eqField.f k bt991.1 bt991.2.1 bt991.2.2.1 bt975.1 bt975.2.1 bt975.2.2.1).bind fun t998 => (if t998 = true then (laws_FnExactSpreadMean.j0 k l1 bt975.2.2.2 t988 bt991.2.2.2 (bt991.2.2.2 != bt975.2.2.2) a0_0 a0_1 l0_2 bt975.1 bt975.2.1 bt975.2.2.1 bt982.1 bt982.2.1 bt982.2.2 bt991.1 bt991.2.1 bt991.2.2.1) else (laws_FnExactSpreadMean.j0 k l1 bt975.2.2.2 t988 bt991.2.2.2 true a0_0 a0_1 l0_2 bt975.1 bt975.2.1 bt975.2.2.1 bt982.1 bt982.2.1 bt982.2.2 bt991.1 bt991.2.1 bt991.2.2.1)))))))) = some r := H
      have A10 := Aside0.mk A100
      clear A100
      replace H := Option.bind_eq_some_iff.mp H
      obtain ⟨t972, A110, H⟩ := H
      replace H : ((spec_SpreadMean.f k t967 t968 t969 t972).bind fun bt975 => ((laws_toField.f k a0_0 a0_1 l0_2).bind fun bt982 => ((laws_toIntS.f k l1).bind fun t988 => ((impl_SpreadMean.f k bt982.1 bt982.2.1 bt982.2.2 t988).bind fun bt991 => ((laws_eqField.f k bt991.1 bt991.2.1 bt991.2.2.1 bt975.1 bt975.2.1 bt975.2.2.1).bind fun t998 => (if t998 = true then (laws_FnExactSpreadMean.j0 k l1 bt975.2.2.2 t988 bt991.2.2.2 (bt991.2.2.2 != bt975.2.2.2) a0_0 a0_1 l0_2 bt975.1 bt975.2.1 bt975.2.2.1 bt982.1 bt982.2.1 bt982.2.2 bt991.1 bt991.2.1 bt991.2.2.1) else (laws_FnExactSpreadMean.j0 k l1 bt975.2.2.2 t988 bt991.2.2.2 true a0_0 a0_1 l0_2 bt975.1 bt975.2.1 bt975.2.2.1 bt982.1 bt982.2.1 bt982.2.2 bt991.1 bt991.2.1 bt991.2.2.1))))))) = some r := H
      have A11 := Aside0.mk A110
      clear A110
      replace H := Option.bind_eq_some_iff.mp H
      obtain ⟨⟨t975, t976, t977, t980⟩, A120, H⟩ := H
      replace H : ((laws_toField.f k a0_0 a0_1 l0_2).bind fun bt982 => ((laws_toIntS.f k l1).bind fun t988 => ((impl_SpreadMean.f k bt982.1 bt982.2.1 bt982.2.2 t988).bind fun bt991 => ((laws_eqField.f k bt991.1 bt991.2.1 bt991.2.2.1 t975 t976 t977).bind fun t998 => (if t998 = true then (laws_FnExactSpreadMean.j0 k l1 t980 t988 bt991.2.2.2 (bt991.2.2.2 != t980) a0_0 a0_1 l0_2 t975 t976 t977 bt982.1 bt982.2.1 bt982.2.2 bt991.1 bt991.2.1 bt991.2.2.1) else (laws_FnExactSpreadMean.j0 k l1 t980 t988 bt991.2.2.2 true a0_0 a0_1 l0_2 t975 t976 t977 bt982.1 bt982.2.1 bt982.2.2 bt991.1 bt991.2.1 bt991.2.2.1)))))) = some r := H
      have A12 := Aside0.mk A120
      clear A120
      replace H := Option.bind_eq_some_iff.mp H
      obtain ⟨⟨t982, t983, t984⟩, A130, H⟩ := H
      replace H : ((laws_toIntS.f k l1).bind fun t988 => ((impl_SpreadMean.f k t982 t983 t984 t988).bind fun bt991 => ((laws_eqField.f k bt991.1 bt991.2.1 bt991.2.2.1 t975 t976 t977).bind fun t998 => (if t998 = true then (laws_FnExactSpreadMean.j0 k l1 t980 t988 bt991.2.2.2 (bt991.2.2.2 != t980) a0_0 a0_1 l0_2 t975 t976 t977 t982 t983 t984 bt991.1 bt991.2.1 bt991.2.2.1) else (laws_FnExactSpreadMean.j0 k l1 t980 t988 bt991.2.2.2 true a0_0 a0_1 l0_2 t975 t976 t977 t982 t983 t984 bt991.1 bt991.2.1 bt991.2.2.1))))) = some r := H
      have A13 := Aside0.mk A130
      clear A130
      replace H := Option.bind_eq_some_iff.mp H
      obtain ⟨t988, A140, H⟩ := H
      replace H : ((impl_SpreadMean.f k t982 t983 t984 t988).bind fun bt991 => ((laws_eqField.f k bt991.1 bt991.2.1 bt991.2.2.1 t975 t976 t977).bind fun t998 => (if t998 = true then (laws_FnExactSpreadMean.j0 k l1 t980 t988 bt991.2.2.2 (bt991.2.2.2 != t980) a0_0 a0_1 l0_2 t975 t976 t977 t982 t983 t984 bt991.1 bt991.2.1 bt991.2.2.1) else (laws_FnExactSpreadMean.j0 k l1 t980 t988 bt991.2.2.2 true a0_0 a0_1 l0_2 t975 t976 t977 t982 t983 t984 bt991.1 bt991.2.1 bt991.2.2.1)))) = some r := H
      have A14 := Aside0.mk A140
      clear A140
      replace H := Option.bind_eq_some_iff.mp H
      obtain ⟨⟨t991, t992, t993, t996⟩, A150, H⟩ := H
      replace H : ((laws_eqField.f k t991 t992 t993 t975 t976 t977).bind fun t998 => (if t998 = true then (laws_FnExactSpreadMean.j0 k l1 t980 t988 t996 (t996 != t980) a0_0 a0_1 l0_2 t975 t976 t977 t982 t983 t984 t991 t992 t993) else (laws_FnExactSpreadMean.j0 k l1 t980 t988 t996 true a0_0 a0_1 l0_2 t975 t976 t977 t982 t983 t984 t991 t992 t993))) = some r := H
      have A15 := Aside0.mk A150
      clear A150
      have HC16 := Aside0.mk H
      clear H
      go_enter Try.func9, Try.ntmps9
      go_upto_region 11 with (first | ((with_reducible refine gate_dst (N := 2) rfl ?_); refine box_event ?hg (N := 2) ?hd (cs := #[.int .i64 a0_0, .int .i64 a0_1, .slice A0_2 l0_2.length c0_2]) (t := 36) ?hr ?_; (case hd => rfl); (case hg => rfl); (case hr => first | (go_simp; done) | (go_simp; rfl)); intro gb965 hg w17 hbox hb; have n0_ := Aside0.mk (below_step (by repeat (first | (with_reducible first | exact HB.out | apply below_alloc | apply pw_below_drewN | apply below_drew1) | exact HB.out)) hb); have n1_ := Aside0.mk (hbox); have n2_ := Aside0.mk ((by rw [hg]; exact (below_size (by repeat (first | (with_reducible first | exact HB.out | apply below_alloc | apply pw_below_drewN | apply below_drew1) | exact HB.out))) : w.heap.size ≤ gb965)); have n3_ := Aside0.mk ((by rw [hg]; exact (below_size (by repeat (first | (with_reducible first | exact HB.out | apply below_alloc | apply pw_below_drewN | apply below_drew1) | exact HB.out))) : w.heap.size ≤ gb965)); clear HB; have HB := n0_; have BK965 := n1_; have GW965 := n2_; have GE965 := n3_; clear n0_ n1_ n2_ n3_; clear hb hbox hg; have hcz18_0 : w17.cell? ⟨gb965, 0, none⟩ = some (.int .i64 a0_0) := (blk_cell BK965.out 0).trans rfl; have hcz18_1 : w17.cell? ⟨gb965, 1, none⟩ = some (.int .i64 a0_1) := (blk_cell BK965.out 1).trans rfl; have hcz18_2 : w17.cell? ⟨gb965, 2, none⟩ = some (.slice A0_2 l0_2.length c0_2) := (blk_cell BK965.out 2).trans rfl; have hfz18_0 := blk_frozen BK965.out 0; have hfz18_1 := blk_frozen BK965.out 1; have hfz18_2 := blk_frozen BK965.out 2) | ((with_reducible refine gate_callee (f := 20) rfl ?_); refine goesL_ (some 22) rfl rfl Try.func20 (by kernel_rfl) rfl #[.agg #[.int .i64 a0_0, .int .i64 a0_1, .slice A0_2 l0_2.length c0_2], .int .i64 1048576] rfl (by (try simp only [List.map_toArray, List.map_cons, List.map_nil]); first | done | rfl | (simp only [List.length_drop, List.length_take]; rfl)) ?_; (with_reducible refine (laws_szField.calls a0_0 a0_1 _ _ l0_2 1048576 t966 _ ?side1 ?side2 A5.out).mono ?_); (case side1 => repeat (first | exact (Kd.C_below HR0_2.out HB.out) | (with_reducible refine Kd.C_alloc ?_ _) | (with_reducible refine Kd.C_drewN ?_ _) | (with_reducible refine Kd.C_drew ?_))); (case side2 => exact HC0_2.out); rintro e w19 ⟨rfl, hb⟩; refine ⟨_, rfl, ?_⟩; have n0_ := Aside0.mk (blk_below (g := gb965) (o := .cells #[.int .i64 a0_0, .int .i64 a0_1, .slice A0_2 l0_2.length c0_2] 36 (0, 0)) BK965.out hb); have n1_ := Aside0.mk (below_step (by repeat (first | (with_reducible first | exact HB.out | apply below_alloc | apply pw_below_drewN | apply below_drew1 | refine below_set ?_ GE965.out) | exact HB.out)) hb); clear BK965; clear HB; have BK965 := n0_; have HB := n1_; clear n0_ n1_; (try clear hb); (try clear hb2); (try clear hk); (try clear hi); have hcz20_0 : w19.cell? ⟨gb965, 0, none⟩ = some (.int .i64 a0_0) := (blk_cell BK965.out 0).trans rfl; have hcz20_1 : w19.cell? ⟨gb965, 1, none⟩ = some (.int .i64 a0_1) := (blk_cell BK965.out 1).trans rfl; have hcz20_2 : w19.cell? ⟨gb965, 2, none⟩ = some (.slice A0_2 l0_2.length c0_2) := (blk_cell BK965.out 2).trans rfl; have hfz20_0 := blk_frozen BK965.out 0; have hfz20_1 := blk_frozen BK965.out 1; have hfz20_2 := blk_frozen BK965.out 2) | ((with_reducible refine gate_callee (f := 22) rfl ?_); refine goesL_ (some 27) rfl rfl Try.func22 (by kernel_rfl) rfl #[.agg #[.int .i64 a0_0, .int .i64 a0_1, .slice A0_2 l0_2.length c0_2]] rfl (by (try simp only [List.map_toArray, List.map_cons, List.map_nil]); first | done | rfl | (simp only [List.length_drop, List.length_take]; rfl)) ?_; (with_reducible refine (laws_toField.calls k a0_0 a0_1 _ _ l0_2 t967 t968 t969 _ ?side1 ?side2 A10.out).mono ?_); (case side1 => repeat (first | exact (Kd.C_below HR0_2.out HB.out) | (with_reducible refine Kd.C_alloc ?_ _) | (with_reducible refine Kd.C_drewN ?_ _) | (with_reducible refine Kd.C_drew ?_))); (case side2 => exact HC0_2.out); rintro e w21 ⟨v970, rfl, ho0, hb⟩; refine ⟨_, rfl, ?_⟩; have n0_ := Aside0.mk (Kd.R_lower ho0 (below_size (by repeat (first | (with_reducible first | exact HB.out | apply below_alloc | apply pw_below_drewN | apply below_drew1 | refine below_set ?_ GE965.out) | exact HB.out)))); have n1_ := Aside0.mk (blk_below (g := gb965) (o := .cells #[.int .i64 a0_0, .int .i64 a0_1, .slice A0_2 l0_2.length c0_2] 36 (0, 0)) BK965.out hb); have n2_ := Aside0.mk (below_step (by repeat (first | (with_reducible first | exact HB.out | apply below_alloc | apply pw_below_drewN | apply below_drew1 | refine below_set ?_ GE965.out) | exact HB.out)) hb); clear BK965; clear HB; have HO971 := n0_; have BK965 := n1_; have HB := n2_; clear n0_ n1_ n2_; (try clear hb); (try clear hb2); (try clear hk); (try clear hi); (try clear ho0)) | ((with_reducible refine gate_callee (f := 23) rfl ?_); refine goesL_ (some 29) rfl rfl Try.func23 (by kernel_rfl) rfl #[.slice A1 l1.length c1] rfl (by (try simp only [List.map_toArray, List.map_cons, List.map_nil]); first | done | rfl | (simp only [List.length_drop, List.length_take]; rfl)) ?_; (with_reducible refine (laws_toIntS.calls k _ _ l1 t972 _ ?side1 ?side2 A11.out).mono ?_); (case side1 => repeat (first | exact (Kd.C_below HR1.out HB.out) | (with_reducible refine Kd.C_alloc ?_ _) | (with_reducible refine Kd.C_drewN ?_ _) | (with_reducible refine Kd.C_drew ?_))); (case side2 => exact HC1.out); rintro e w22 ⟨v973, rfl, ho0, hb⟩; refine ⟨_, rfl, ?_⟩; have n0_ := Aside0.mk (Kd.R_elder' (by (with_reducible repeat (first | apply Kd.R_alloc | apply Kd.R_drewN | apply Kd.R_drew)); exact HO971.out) (Kd.R_base ho0) hb); have n1_ := Aside0.mk (Kd.R_lower (Kd.R_new' ho0 (Kd.R_lt (by (with_reducible repeat (first | apply Kd.R_alloc | apply Kd.R_drewN | apply Kd.R_drew)); exact HO971.out))) (below_size (by repeat (first | (with_reducible first | exact HB.out | apply below_alloc | apply pw_below_drewN | apply below_drew1 | refine below_set ?_ GE965.out) | exact HB.out)))); have n2_ := Aside0.mk (blk_below (g := gb965) (o := .cells #[.int .i64 a0_0, .int .i64 a0_1, .slice A0_2 l0_2.length c0_2] 36 (0, 0)) BK965.out hb); have n3_ := Aside0.mk (below_step (by repeat (first | (with_reducible first | exact HB.out | apply below_alloc | apply pw_below_drewN | apply below_drew1 | refine below_set ?_ GE965.out) | exact HB.out)) hb); clear HO971; clear BK965; clear HB; have HO971 := n0_; have HO974 := n1_; have BK965 := n2_; have HB := n3_; clear n0_ n1_ n2_ n3_; (try clear hb); (try clear hb2); (try clear hk); (try clear hi); (try clear ho0); obtain ⟨Ao23, co23, eo23⟩ := Kd.R_slice HO971.out; subst eo23; obtain ⟨Ao24, co24, eo24⟩ := Kd.R_slice HO974.out; subst eo24) | ((with_reducible refine gate_callee (f := 34) rfl ?_); refine goesL_ (some 30) rfl rfl Try.func34 (by kernel_rfl) rfl #[.agg #[.int .i64 t967, .int .i64 t968, .slice Ao23 t969.length co23], .slice Ao24 t972.length co24] rfl (by (try simp only [List.map_toArray, List.map_cons, List.map_nil]); first | done | rfl | (simp only [List.length_drop, List.length_take]; rfl)) ?_; (with_reducible refine (spec_SpreadMean.calls k t967 t968 _ _ t969 _ _ t972 t975 t976 t977 t980 _ ?side1 ?side2 ?side3 ?side4 A12.out).mono ?_); (case side1 => repeat (first | exact (Kd.R_reads' HO971.out).2.2 | (with_reducible refine Kd.C_alloc ?_ _) | (with_reducible refine Kd.C_drewN ?_ _) | (with_reducible refine Kd.C_drew ?_))); (case side2 => exact (Kd.R_reads' HO971.out).2.1); (case side3 => repeat (first | exact (Kd.R_reads' HO974.out).2.2 | (with_reducible refine Kd.C_alloc ?_ _) | (with_reducible refine Kd.C_drewN ?_ _) | (with_reducible refine Kd.C_drew ?_))); (case side4 => exact (Kd.R_reads' HO974.out).2.1); rintro e w25 ⟨v978, rfl, ho0, hb⟩; refine ⟨_, rfl, ?_⟩; have n0_ := Aside0.mk (Kd.R_elder' (by (with_reducible repeat (first | apply Kd.R_alloc | apply Kd.R_drewN | apply Kd.R_drew)); exact HO971.out) (Kd.R_base ho0) hb); have n1_ := Aside0.mk (Kd.R_elder' (by (with_reducible repeat (first | apply Kd.R_alloc | apply Kd.R_drewN | apply Kd.R_drew)); exact HO974.out) (Kd.R_base ho0) hb); have n2_ := Aside0.mk (Kd.R_lower (Kd.R_new' (Kd.R_new' ho0 (Kd.R_lt (by (with_reducible repeat (first | apply Kd.R_alloc | apply Kd.R_drewN | apply Kd.R_drew)); exact HO971.out))) (Kd.R_lt (by (with_reducible repeat (first | apply Kd.R_alloc | apply Kd.R_drewN | apply Kd.R_drew)); exact HO974.out))) (below_size (by repeat (first | (with_reducible first | exact HB.out | apply below_alloc | apply pw_below_drewN | apply below_drew1 | refine below_set ?_ GE965.out) | exact HB.out)))); have n3_ := Aside0.mk (blk_below (g := gb965) (o := .cells #[.int .i64 a0_0, .int .i64 a0_1, .slice A0_2 l0_2.length c0_2] 36 (0, 0)) BK965.out hb); have n4_ := Aside0.mk (below_step (by repeat (first | (with_reducible first | exact HB.out | apply below_alloc | apply pw_below_drewN | apply below_drew1 | refine below_set ?_ GE965.out) | exact HB.out)) hb); clear HO971; clear HO974; clear BK965; clear HB; have HO971 := n0_; have HO974 := n1_; have HO979 := n2_; have BK965 := n3_; have HB := n4_; clear n0_ n1_ n2_ n3_ n4_; (try clear hb); (try clear hb2); (try clear hk); (try clear hi); (try clear ho0)) | ((with_reducible refine gate_dst (N := 6) rfl ?_); refine box_event ?hg (N := 6) ?hd (cs := #[.int .i64 0, .int .i64 0, .slice none 0 0]) (t := 26) ?hr ?_; (case hd => rfl); (case hg => rfl); (case hr => first | (go_simp; done) | (go_simp; rfl)); intro gb981 hg w26 hbox hb; have n0_ := Aside0.mk (Kd.R_below (by (with_reducible repeat (first | apply Kd.R_alloc | apply Kd.R_drewN | apply Kd.R_drew)); exact HO971.out) hb); have n1_ := Aside0.mk (Kd.R_below (by (with_reducible repeat (first | apply Kd.R_alloc | apply Kd.R_drewN | apply Kd.R_drew)); exact HO974.out) hb); have n2_ := Aside0.mk (Kd.R_below (by (with_reducible repeat (first | apply Kd.R_alloc | apply Kd.R_drewN | apply Kd.R_drew)); exact HO979.out) hb); have n3_ := Aside0.mk (blk_below (g := gb965) (o := .cells #[.int .i64 a0_0, .int .i64 a0_1, .slice A0_2 l0_2.length c0_2] 36 (0, 0)) BK965.out hb); have n4_ := Aside0.mk (below_step (by repeat (first | (with_reducible first | exact HB.out | apply below_alloc | apply pw_below_drewN | apply below_drew1 | refine below_set ?_ GE965.out) | exact HB.out)) hb); have n5_ := Aside0.mk (hbox); have n6_ := Aside0.mk ((by rw [hg]; exact (below_size (by repeat (first | (with_reducible first | exact HB.out | apply below_alloc | apply pw_below_drewN | apply below_drew1 | refine below_set ?_ GE965.out) | exact HB.out))) : w.heap.size ≤ gb981)); have n7_ := Aside0.mk ((by rw [hg]; exact (below_size (by repeat (first | (with_reducible first | exact HB.out | apply below_alloc | apply pw_below_drewN | apply below_drew1 | refine below_set ?_ GE965.out) | exact HB.out))) : w.heap.size ≤ gb981)); have n8_ := Aside0.mk ((by rw [hg]; exact Nat.ne_of_lt (blk_lt (g := gb965) (o := .cells #[.int .i64 a0_0, .int .i64 a0_1, .slice A0_2 l0_2.length c0_2] 36 (0, 0)) BK965.out) : gb965 ≠ gb981)); have n9_ := Aside0.mk ((by rw [hg]; exact Nat.ne_of_gt (blk_lt (g := gb965) (o := .cells #[.int .i64 a0_0, .int .i64 a0_1, .slice A0_2 l0_2.length c0_2] 36 (0, 0)) BK965.out) : gb981 ≠ gb965)); clear HO971; clear HO974; clear HO979; clear BK965; clear HB; have HO971 := n0_; have HO974 := n1_; have HO979 := n2_; have BK965 := n3_; have HB := n4_; have BK981 := n5_; have GW981 := n6_; have GE981 := n7_; have NB965_981 := n8_; have NB981_965 := n9_; clear n0_ n1_ n2_ n3_ n4_ n5_ n6_ n7_ n8_ n9_; clear hb hbox hg; have hnb27 := NB981_965.out; have hnc27 := NB965_981.out; have hcz28_0 : w26.cell? ⟨gb981, 0, none⟩ = some (.int .i64 0) := (blk_cell BK981.out 0).trans rfl; have hcz28_1 : w26.cell? ⟨gb981, 1, none⟩ = some (.int .i64 0) := (blk_cell BK981.out 1).trans rfl; have hcz28_2 : w26.cell? ⟨gb981, 2, none⟩ = some (.slice none 0 0) := (blk_cell BK981.out 2).trans rfl; have hfz28_0 := blk_frozen BK981.out 0; have hfz28_1 := blk_frozen BK981.out 1; have hfz28_2 := blk_frozen BK981.out 2; obtain ⟨Ao29, co29, eo29⟩ := Kd.R_slice HO979.out; subst eo29; have hcz30_0 : w26.cell? ⟨gb965, 0, none⟩ = some (.int .i64 a0_0) := (blk_cell BK965.out 0).trans rfl; have hcz30_1 : w26.cell? ⟨gb965, 1, none⟩ = some (.int .i64 a0_1) := (blk_cell BK965.out 1).trans rfl; have hcz30_2 : w26.cell? ⟨gb965, 2, none⟩ = some (.slice A0_2 l0_2.length c0_2) := (blk_cell BK965.out 2).trans rfl; have hfz30_0 := blk_frozen BK965.out 0; have hfz30_1 := blk_frozen BK965.out 1; have hfz30_2 := blk_frozen BK965.out 2) | ((with_reducible refine gate_callee (f := 22) rfl ?_); refine goesL_ (some 34) rfl rfl Try.func22 (by kernel_rfl) rfl #[.agg #[.int .i64 a0_0, .int .i64 a0_1, .slice A0_2 l0_2.length c0_2]] rfl (by (try simp only [List.map_toArray, List.map_cons, List.map_nil]); first | done | rfl | (simp only [List.length_drop, List.length_take]; rfl)) ?_; (with_reducible refine (laws_toField.calls k a0_0 a0_1 _ _ l0_2 t982 t983 t984 _ ?side1 ?side2 A13.out).mono ?_); (case side1 => exact Kd.C_below HR0_2.out (by repeat (first | (with_reducible first | exact HB.out | apply below_alloc | apply pw_below_drewN | apply below_drew1 | refine below_set ?_ GE965.out | refine below_set ?_ GE981.out) | exact HB.out))); (case side2 => exact HC0_2.out); rintro e w31 ⟨v985, rfl, ho0, hb⟩; refine ⟨_, rfl, ?_⟩; have n0_ := Aside0.mk (Kd.R_elder' (by (with_reducible repeat (first | apply Kd.R_alloc | apply Kd.R_drewN | apply Kd.R_drew)); exact (Kd.R_mono (Kd.R_far (p := ⟨gb981, 2, none⟩) (Kd.R_far (p := ⟨gb981, 1, none⟩) (Kd.R_far (p := ⟨gb981, 0, none⟩) (Kd.R_types HO971.out BK981.out (by decide)) (fun _ hk => hk.2) (.int .i64 t975)) (fun _ hk => hk.2) (.int .i64 t976)) (fun _ hk => hk.2) (.slice Ao29 t977.length co29)) (fun _ h_ => h_.1))) (Kd.R_base ho0) hb); have n1_ := Aside0.mk (Kd.R_elder' (by (with_reducible repeat (first | apply Kd.R_alloc | apply Kd.R_drewN | apply Kd.R_drew)); exact (Kd.R_mono (Kd.R_far (p := ⟨gb981, 2, none⟩) (Kd.R_far (p := ⟨gb981, 1, none⟩) (Kd.R_far (p := ⟨gb981, 0, none⟩) (Kd.R_types HO974.out BK981.out (by decide)) (fun _ hk => hk.2) (.int .i64 t975)) (fun _ hk => hk.2) (.int .i64 t976)) (fun _ hk => hk.2) (.slice Ao29 t977.length co29)) (fun _ h_ => h_.1))) (Kd.R_base ho0) hb); have n2_ := Aside0.mk (Kd.R_elder' (by (with_reducible repeat (first | apply Kd.R_alloc | apply Kd.R_drewN | apply Kd.R_drew)); exact (Kd.R_mono (Kd.R_far (p := ⟨gb981, 2, none⟩) (Kd.R_far (p := ⟨gb981, 1, none⟩) (Kd.R_far (p := ⟨gb981, 0, none⟩) (Kd.R_types HO979.out BK981.out (by decide)) (fun _ hk => hk.2) (.int .i64 t975)) (fun _ hk => hk.2) (.int .i64 t976)) (fun _ hk => hk.2) (.slice Ao29 t977.length co29)) (fun _ h_ => h_.1))) (Kd.R_base ho0) hb); have n3_ := Aside0.mk (Kd.R_lower (Kd.R_new' (Kd.R_new' (Kd.R_new' ho0 (Kd.R_lt (by (with_reducible repeat (first | apply Kd.R_alloc | apply Kd.R_drewN | apply Kd.R_drew)); exact (Kd.R_mono (Kd.R_far (p := ⟨gb981, 2, none⟩) (Kd.R_far (p := ⟨gb981, 1, none⟩) (Kd.R_far (p := ⟨gb981, 0, none⟩) (Kd.R_types HO971.out BK981.out (by decide)) (fun _ hk => hk.2) (.int .i64 t975)) (fun _ hk => hk.2) (.int .i64 t976)) (fun _ hk => hk.2) (.slice Ao29 t977.length co29)) (fun _ h_ => h_.1))))) (Kd.R_lt (by (with_reducible repeat (first | apply Kd.R_alloc | apply Kd.R_drewN | apply Kd.R_drew)); exact (Kd.R_mono (Kd.R_far (p := ⟨gb981, 2, none⟩) (Kd.R_far (p := ⟨gb981, 1, none⟩) (Kd.R_far (p := ⟨gb981, 0, none⟩) (Kd.R_types HO974.out BK981.out (by decide)) (fun _ hk => hk.2) (.int .i64 t975)) (fun _ hk => hk.2) (.int .i64 t976)) (fun _ hk => hk.2) (.slice Ao29 t977.length co29)) (fun _ h_ => h_.1))))) (Kd.R_lt (by (with_reducible repeat (first | apply Kd.R_alloc | apply Kd.R_drewN | apply Kd.R_drew)); exact (Kd.R_mono (Kd.R_far (p := ⟨gb981, 2, none⟩) (Kd.R_far (p := ⟨gb981, 1, none⟩) (Kd.R_far (p := ⟨gb981, 0, none⟩) (Kd.R_types HO979.out BK981.out (by decide)) (fun _ hk => hk.2) (.int .i64 t975)) (fun _ hk => hk.2) (.int .i64 t976)) (fun _ hk => hk.2) (.slice Ao29 t977.length co29)) (fun _ h_ => h_.1))))) (below_size (by repeat (first | (with_reducible first | exact HB.out | apply below_alloc | apply pw_below_drewN | apply below_drew1 | refine below_set ?_ GE965.out | refine below_set ?_ GE981.out) | exact HB.out)))); have n4_ := Aside0.mk (blk_below (g := gb965) (o := .cells #[.int .i64 a0_0, .int .i64 a0_1, .slice A0_2 l0_2.length c0_2] 36 (0, 0)) (by (with_reducible repeat (first | refine blk_drewN ?_ _ | refine blk_drew ?_ | refine blk_alloc ?_ _)); refine blk_far ?_ NB965_981.out _; (with_reducible repeat (first | refine blk_drewN ?_ _ | refine blk_drew ?_ | refine blk_alloc ?_ _)); refine blk_far ?_ NB965_981.out _; (with_reducible repeat (first | refine blk_drewN ?_ _ | refine blk_drew ?_ | refine blk_alloc ?_ _)); refine blk_far ?_ NB965_981.out _; (with_reducible repeat (first | refine blk_drewN ?_ _ | refine blk_drew ?_ | refine blk_alloc ?_ _)); exact BK965.out) hb); have n5_ := Aside0.mk (blk_below (g := gb981) (o := .cells #[.int .i64 t975, .int .i64 t976, .slice Ao29 t977.length co29] 26 (0, 0)) (by (with_reducible repeat (first | refine blk_drewN ?_ _ | refine blk_drew ?_ | refine blk_alloc ?_ _)); refine blk_put (cs := #[.int .i64 t975, .int .i64 t976, .slice none 0 0]) ?_ 2 _ rfl; (with_reducible repeat (first | refine blk_drewN ?_ _ | refine blk_drew ?_ | refine blk_alloc ?_ _)); refine blk_put (cs := #[.int .i64 t975, .int .i64 0, .slice none 0 0]) ?_ 1 _ rfl; (with_reducible repeat (first | refine blk_drewN ?_ _ | refine blk_drew ?_ | refine blk_alloc ?_ _)); refine blk_put (cs := #[.int .i64 0, .int .i64 0, .slice none 0 0]) ?_ 0 _ rfl; (with_reducible repeat (first | refine blk_drewN ?_ _ | refine blk_drew ?_ | refine blk_alloc ?_ _)); exact BK981.out) hb); have n6_ := Aside0.mk (below_step (by repeat (first | (with_reducible first | exact HB.out | apply below_alloc | apply pw_below_drewN | apply below_drew1 | refine below_set ?_ GE965.out | refine below_set ?_ GE981.out) | exact HB.out)) hb); clear HO971; clear HO974; clear HO979; clear BK965; clear BK981; clear HB; have HO971 := n0_; have HO974 := n1_; have HO979 := n2_; have HO986 := n3_; have BK965 := n4_; have BK981 := n5_; have HB := n6_; clear n0_ n1_ n2_ n3_ n4_ n5_ n6_; (try clear hb); (try clear hb2); (try clear hk); (try clear hi); (try clear ho0)) | ((with_reducible refine gate_dst (N := 8) rfl ?_); refine box_event ?hg (N := 8) ?hd (cs := #[.int .i64 0, .int .i64 0, .slice none 0 0]) (t := 26) ?hr ?_; (case hd => rfl); (case hg => rfl); (case hr => first | (go_simp; done) | (go_simp; rfl)); intro gb987 hg w32 hbox hb; have n0_ := Aside0.mk (Kd.R_below (by (with_reducible repeat (first | apply Kd.R_alloc | apply Kd.R_drewN | apply Kd.R_drew)); exact HO971.out) hb); have n1_ := Aside0.mk (Kd.R_below (by (with_reducible repeat (first | apply Kd.R_alloc | apply Kd.R_drewN | apply Kd.R_drew)); exact HO974.out) hb); have n2_ := Aside0.mk (Kd.R_below (by (with_reducible repeat (first | apply Kd.R_alloc | apply Kd.R_drewN | apply Kd.R_drew)); exact HO979.out) hb); have n3_ := Aside0.mk (Kd.R_below (by (with_reducible repeat (first | apply Kd.R_alloc | apply Kd.R_drewN | apply Kd.R_drew)); exact HO986.out) hb); have n4_ := Aside0.mk (blk_below (g := gb965) (o := .cells #[.int .i64 a0_0, .int .i64 a0_1, .slice A0_2 l0_2.length c0_2] 36 (0, 0)) BK965.out hb); have n5_ := Aside0.mk (blk_below (g := gb981) (o := .cells #[.int .i64 t975, .int .i64 t976, .slice Ao29 t977.length co29] 26 (0, 0)) BK981.out hb); have n6_ := Aside0.mk (below_step (by repeat (first | (with_reducible first | exact HB.out | apply below_alloc | apply pw_below_drewN | apply below_drew1 | refine below_set ?_ GE965.out | refine below_set ?_ GE981.out) | exact HB.out)) hb); have n7_ := Aside0.mk (hbox); have n8_ := Aside0.mk ((by rw [hg]; exact (below_size (by repeat (first | (with_reducible first | exact HB.out | apply below_alloc | apply pw_below_drewN | apply below_drew1 | refine below_set ?_ GE965.out | refine below_set ?_ GE981.out) | exact HB.out))) : w.heap.size ≤ gb987)); have n9_ := Aside0.mk ((by rw [hg]; exact (below_size (by repeat (first | (with_reducible first | exact HB.out | apply below_alloc | apply pw_below_drewN | apply below_drew1 | refine below_set ?_ GE965.out | refine below_set ?_ GE981.out) | exact HB.out))) : w.heap.size ≤ gb987)); have n10_ := Aside0.mk ((by rw [hg]; exact Nat.ne_of_lt (blk_lt (g := gb965) (o := .cells #[.int .i64 a0_0, .int .i64 a0_1, .slice A0_2 l0_2.length c0_2] 36 (0, 0)) BK965.out) : gb965 ≠ gb987)); have n11_ := Aside0.mk ((by rw [hg]; exact Nat.ne_of_gt (blk_lt (g := gb965) (o := .cells #[.int .i64 a0_0, .int .i64 a0_1, .slice A0_2 l0_2.length c0_2] 36 (0, 0)) BK965.out) : gb987 ≠ gb965)); have n12_ := Aside0.mk ((by rw [hg]; exact Nat.ne_of_lt (blk_lt (g := gb981) (o := .cells #[.int .i64 t975, .int .i64 t976, .slice Ao29 t977.length co29] 26 (0, 0)) BK981.out) : gb981 ≠ gb987)); have n13_ := Aside0.mk ((by rw [hg]; exact Nat.ne_of_gt (blk_lt (g := gb981) (o := .cells #[.int .i64 t975, .int .i64 t976, .slice Ao29 t977.length co29] 26 (0, 0)) BK981.out) : gb987 ≠ gb981)); clear HO971; clear HO974; clear HO979; clear HO986; clear BK965; clear BK981; clear HB; have HO971 := n0_; have HO974 := n1_; have HO979 := n2_; have HO986 := n3_; have BK965 := n4_; have BK981 := n5_; have HB := n6_; have BK987 := n7_; have GW987 := n8_; have GE987 := n9_; have NB965_987 := n10_; have NB987_965 := n11_; have NB981_987 := n12_; have NB987_981 := n13_; clear n0_ n1_ n2_ n3_ n4_ n5_ n6_ n7_ n8_ n9_ n10_ n11_ n12_ n13_; clear hb hbox hg; have hnb33 := NB987_965.out; have hnc33 := NB965_987.out; have hnb34 := NB987_981.out; have hnc34 := NB981_987.out; have hcz35_0 : w32.cell? ⟨gb987, 0, none⟩ = some (.int .i64 0) := (blk_cell BK987.out 0).trans rfl; have hcz35_1 : w32.cell? ⟨gb987, 1, none⟩ = some (.int .i64 0) := (blk_cell BK987.out 1).trans rfl; have hcz35_2 : w32.cell? ⟨gb987, 2, none⟩ = some (.slice none 0 0) := (blk_cell BK987.out 2).trans rfl; have hfz35_0 := blk_frozen BK987.out 0; have hfz35_1 := blk_frozen BK987.out 1; have hfz35_2 := blk_frozen BK987.out 2; obtain ⟨Ao36, co36, eo36⟩ := Kd.R_slice HO986.out; subst eo36) | ((with_reducible refine gate_callee (f := 23) rfl ?_); refine goesL_ (some 36) rfl rfl Try.func23 (by kernel_rfl) rfl #[.slice A1 l1.length c1] rfl (by (try simp only [List.map_toArray, List.map_cons, List.map_nil]); first | done | rfl | (simp only [List.length_drop, List.length_take]; rfl)) ?_; (with_reducible refine (laws_toIntS.calls k _ _ l1 t988 _ ?side1 ?side2 A14.out).mono ?_); (case side1 => exact Kd.C_below HR1.out (by repeat (first | (with_reducible first | exact HB.out | apply below_alloc | apply pw_below_drewN | apply below_drew1 | refine below_set ?_ GE965.out | refine below_set ?_ GE981.out | refine below_set ?_ GE987.out) | exact HB.out))); (case side2 => exact HC1.out); rintro e w37 ⟨v989, rfl, ho0, hb⟩; refine ⟨_, rfl, ?_⟩; have n0_ := Aside0.mk (Kd.R_elder' (by (with_reducible repeat (first | apply Kd.R_alloc | apply Kd.R_drewN | apply Kd.R_drew)); exact (Kd.R_mono (Kd.R_far (p := ⟨gb987, 2, none⟩) (Kd.R_far (p := ⟨gb987, 1, none⟩) (Kd.R_far (p := ⟨gb987, 0, none⟩) (Kd.R_types HO971.out BK987.out (by decide)) (fun _ hk => hk.2) (.int .i64 t982)) (fun _ hk => hk.2) (.int .i64 t983)) (fun _ hk => hk.2) (.slice Ao36 t984.length co36)) (fun _ h_ => h_.1))) (Kd.R_base ho0) hb); have n1_ := Aside0.mk (Kd.R_elder' (by (with_reducible repeat (first | apply Kd.R_alloc | apply Kd.R_drewN | apply Kd.R_drew)); exact (Kd.R_mono (Kd.R_far (p := ⟨gb987, 2, none⟩) (Kd.R_far (p := ⟨gb987, 1, none⟩) (Kd.R_far (p := ⟨gb987, 0, none⟩) (Kd.R_types HO974.out BK987.out (by decide)) (fun _ hk => hk.2) (.int .i64 t982)) (fun _ hk => hk.2) (.int .i64 t983)) (fun _ hk => hk.2) (.slice Ao36 t984.length co36)) (fun _ h_ => h_.1))) (Kd.R_base ho0) hb); have n2_ := Aside0.mk (Kd.R_elder' (by (with_reducible repeat (first | apply Kd.R_alloc | apply Kd.R_drewN | apply Kd.R_drew)); exact (Kd.R_mono (Kd.R_far (p := ⟨gb987, 2, none⟩) (Kd.R_far (p := ⟨gb987, 1, none⟩) (Kd.R_far (p := ⟨gb987, 0, none⟩) (Kd.R_types HO979.out BK987.out (by decide)) (fun _ hk => hk.2) (.int .i64 t982)) (fun _ hk => hk.2) (.int .i64 t983)) (fun _ hk => hk.2) (.slice Ao36 t984.length co36)) (fun _ h_ => h_.1))) (Kd.R_base ho0) hb); have n3_ := Aside0.mk (Kd.R_elder' (by (with_reducible repeat (first | apply Kd.R_alloc | apply Kd.R_drewN | apply Kd.R_drew)); exact (Kd.R_mono (Kd.R_far (p := ⟨gb987, 2, none⟩) (Kd.R_far (p := ⟨gb987, 1, none⟩) (Kd.R_far (p := ⟨gb987, 0, none⟩) (Kd.R_types HO986.out BK987.out (by decide)) (fun _ hk => hk.2) (.int .i64 t982)) (fun _ hk => hk.2) (.int .i64 t983)) (fun _ hk => hk.2) (.slice Ao36 t984.length co36)) (fun _ h_ => h_.1))) (Kd.R_base ho0) hb); have n4_ := Aside0.mk (Kd.R_lower (Kd.R_new' (Kd.R_new' (Kd.R_new' (Kd.R_new' ho0 (Kd.R_lt (by (with_reducible repeat (first | apply Kd.R_alloc | apply Kd.R_drewN | apply Kd.R_drew)); exact (Kd.R_mono (Kd.R_far (p := ⟨gb987, 2, none⟩) (Kd.R_far (p := ⟨gb987, 1, none⟩) (Kd.R_far (p := ⟨gb987, 0, none⟩) (Kd.R_types HO971.out BK987.out (by decide)) (fun _ hk => hk.2) (.int .i64 t982)) (fun _ hk => hk.2) (.int .i64 t983)) (fun _ hk => hk.2) (.slice Ao36 t984.length co36)) (fun _ h_ => h_.1))))) (Kd.R_lt (by (with_reducible repeat (first | apply Kd.R_alloc | apply Kd.R_drewN | apply Kd.R_drew)); exact (Kd.R_mono (Kd.R_far (p := ⟨gb987, 2, none⟩) (Kd.R_far (p := ⟨gb987, 1, none⟩) (Kd.R_far (p := ⟨gb987, 0, none⟩) (Kd.R_types HO974.out BK987.out (by decide)) (fun _ hk => hk.2) (.int .i64 t982)) (fun _ hk => hk.2) (.int .i64 t983)) (fun _ hk => hk.2) (.slice Ao36 t984.length co36)) (fun _ h_ => h_.1))))) (Kd.R_lt (by (with_reducible repeat (first | apply Kd.R_alloc | apply Kd.R_drewN | apply Kd.R_drew)); exact (Kd.R_mono (Kd.R_far (p := ⟨gb987, 2, none⟩) (Kd.R_far (p := ⟨gb987, 1, none⟩) (Kd.R_far (p := ⟨gb987, 0, none⟩) (Kd.R_types HO979.out BK987.out (by decide)) (fun _ hk => hk.2) (.int .i64 t982)) (fun _ hk => hk.2) (.int .i64 t983)) (fun _ hk => hk.2) (.slice Ao36 t984.length co36)) (fun _ h_ => h_.1))))) (Kd.R_lt (by (with_reducible repeat (first | apply Kd.R_alloc | apply Kd.R_drewN | apply Kd.R_drew)); exact (Kd.R_mono (Kd.R_far (p := ⟨gb987, 2, none⟩) (Kd.R_far (p := ⟨gb987, 1, none⟩) (Kd.R_far (p := ⟨gb987, 0, none⟩) (Kd.R_types HO986.out BK987.out (by decide)) (fun _ hk => hk.2) (.int .i64 t982)) (fun _ hk => hk.2) (.int .i64 t983)) (fun _ hk => hk.2) (.slice Ao36 t984.length co36)) (fun _ h_ => h_.1))))) (below_size (by repeat (first | (with_reducible first | exact HB.out | apply below_alloc | apply pw_below_drewN | apply below_drew1 | refine below_set ?_ GE965.out | refine below_set ?_ GE981.out | refine below_set ?_ GE987.out) | exact HB.out)))); have n5_ := Aside0.mk (blk_below (g := gb965) (o := .cells #[.int .i64 a0_0, .int .i64 a0_1, .slice A0_2 l0_2.length c0_2] 36 (0, 0)) (by (with_reducible repeat (first | refine blk_drewN ?_ _ | refine blk_drew ?_ | refine blk_alloc ?_ _)); refine blk_far ?_ NB965_987.out _; (with_reducible repeat (first | refine blk_drewN ?_ _ | refine blk_drew ?_ | refine blk_alloc ?_ _)); refine blk_far ?_ NB965_987.out _; (with_reducible repeat (first | refine blk_drewN ?_ _ | refine blk_drew ?_ | refine blk_alloc ?_ _)); refine blk_far ?_ NB965_987.out _; (with_reducible repeat (first | refine blk_drewN ?_ _ | refine blk_drew ?_ | refine blk_alloc ?_ _)); exact BK965.out) hb); have n6_ := Aside0.mk (blk_below (g := gb981) (o := .cells #[.int .i64 t975, .int .i64 t976, .slice Ao29 t977.length co29] 26 (0, 0)) (by (with_reducible repeat (first | refine blk_drewN ?_ _ | refine blk_drew ?_ | refine blk_alloc ?_ _)); refine blk_far ?_ NB981_987.out _; (with_reducible repeat (first | refine blk_drewN ?_ _ | refine blk_drew ?_ | refine blk_alloc ?_ _)); refine blk_far ?_ NB981_987.out _; (with_reducible repeat (first | refine blk_drewN ?_ _ | refine blk_drew ?_ | refine blk_alloc ?_ _)); refine blk_far ?_ NB981_987.out _; (with_reducible repeat (first | refine blk_drewN ?_ _ | refine blk_drew ?_ | refine blk_alloc ?_ _)); exact BK981.out) hb); have n7_ := Aside0.mk (blk_below (g := gb987) (o := .cells #[.int .i64 t982, .int .i64 t983, .slice Ao36 t984.length co36] 26 (0, 0)) (by (with_reducible repeat (first | refine blk_drewN ?_ _ | refine blk_drew ?_ | refine blk_alloc ?_ _)); refine blk_put (cs := #[.int .i64 t982, .int .i64 t983, .slice none 0 0]) ?_ 2 _ rfl; (with_reducible repeat (first | refine blk_drewN ?_ _ | refine blk_drew ?_ | refine blk_alloc ?_ _)); refine blk_put (cs := #[.int .i64 t982, .int .i64 0, .slice none 0 0]) ?_ 1 _ rfl; (with_reducible repeat (first | refine blk_drewN ?_ _ | refine blk_drew ?_ | refine blk_alloc ?_ _)); refine blk_put (cs := #[.int .i64 0, .int .i64 0, .slice none 0 0]) ?_ 0 _ rfl; (with_reducible repeat (first | refine blk_drewN ?_ _ | refine blk_drew ?_ | refine blk_alloc ?_ _)); exact BK987.out) hb); have n8_ := Aside0.mk (below_step (by repeat (first | (with_reducible first | exact HB.out | apply below_alloc | apply pw_below_drewN | apply below_drew1 | refine below_set ?_ GE965.out | refine below_set ?_ GE981.out | refine below_set ?_ GE987.out) | exact HB.out)) hb); clear HO971; clear HO974; clear HO979; clear HO986; clear BK965; clear BK981; clear BK987; clear HB; have HO971 := n0_; have HO974 := n1_; have HO979 := n2_; have HO986 := n3_; have HO990 := n4_; have BK965 := n5_; have BK981 := n6_; have BK987 := n7_; have HB := n8_; clear n0_ n1_ n2_ n3_ n4_ n5_ n6_ n7_ n8_; (try clear hb); (try clear hb2); (try clear hk); (try clear hi); (try clear ho0); have hcz38_0 : w37.cell? ⟨gb987, 0, none⟩ = some (.int .i64 t982) := (blk_cell BK987.out 0).trans rfl; have hcz38_1 : w37.cell? ⟨gb987, 1, none⟩ = some (.int .i64 t983) := (blk_cell BK987.out 1).trans rfl; have hcz38_2 : w37.cell? ⟨gb987, 2, none⟩ = some (.slice Ao36 t984.length co36) := (blk_cell BK987.out 2).trans rfl; have hfz38_0 := blk_frozen BK987.out 0; have hfz38_1 := blk_frozen BK987.out 1; have hfz38_2 := blk_frozen BK987.out 2; obtain ⟨Ao39, co39, eo39⟩ := Kd.R_slice HO990.out; subst eo39) | ((with_reducible refine gate_callee (f := 35) rfl ?_); refine goesL_ (some 40) rfl rfl Try.func35 (by kernel_rfl) rfl #[.agg #[.int .i64 t982, .int .i64 t983, .slice Ao36 t984.length co36], .slice Ao39 t988.length co39] rfl (by (try simp only [List.map_toArray, List.map_cons, List.map_nil]); first | done | rfl | (simp only [List.length_drop, List.length_take]; rfl)) ?_; (with_reducible refine (impl_SpreadMean.calls k t982 t983 _ _ t984 _ _ t988 t991 t992 t993 t996 _ ?side1 ?side2 ?side3 ?side4 A15.out).mono ?_); (case side1 => repeat (first | exact (Kd.R_reads' HO986.out).2.2 | (with_reducible refine Kd.C_alloc ?_ _) | (with_reducible refine Kd.C_drewN ?_ _) | (with_reducible refine Kd.C_drew ?_))); (case side2 => exact (Kd.R_reads' HO986.out).2.1); (case side3 => repeat (first | exact (Kd.R_reads' HO990.out).2.2 | (with_reducible refine Kd.C_alloc ?_ _) | (with_reducible refine Kd.C_drewN ?_ _) | (with_reducible refine Kd.C_drew ?_))); (case side4 => exact (Kd.R_reads' HO990.out).2.1); rintro e w40 ⟨v994, rfl, ho0, hb⟩; refine ⟨_, rfl, ?_⟩; have n0_ := Aside0.mk (Kd.R_elder' (by (with_reducible repeat (first | apply Kd.R_alloc | apply Kd.R_drewN | apply Kd.R_drew)); exact HO971.out) (Kd.R_base ho0) hb); have n1_ := Aside0.mk (Kd.R_elder' (by (with_reducible repeat (first | apply Kd.R_alloc | apply Kd.R_drewN | apply Kd.R_drew)); exact HO974.out) (Kd.R_base ho0) hb); have n2_ := Aside0.mk (Kd.R_elder' (by (with_reducible repeat (first | apply Kd.R_alloc | apply Kd.R_drewN | apply Kd.R_drew)); exact HO979.out) (Kd.R_base ho0) hb); have n3_ := Aside0.mk (Kd.R_elder' (by (with_reducible repeat (first | apply Kd.R_alloc | apply Kd.R_drewN | apply Kd.R_drew)); exact HO986.out) (Kd.R_base ho0) hb); have n4_ := Aside0.mk (Kd.R_elder' (by (with_reducible repeat (first | apply Kd.R_alloc | apply Kd.R_drewN | apply Kd.R_drew)); exact HO990.out) (Kd.R_base ho0) hb); have n5_ := Aside0.mk (Kd.R_lower (Kd.R_new' (Kd.R_new' (Kd.R_new' (Kd.R_new' (Kd.R_new' ho0 (Kd.R_lt (by (with_reducible repeat (first | apply Kd.R_alloc | apply Kd.R_drewN | apply Kd.R_drew)); exact HO971.out))) (Kd.R_lt (by (with_reducible repeat (first | apply Kd.R_alloc | apply Kd.R_drewN | apply Kd.R_drew)); exact HO974.out))) (Kd.R_lt (by (with_reducible repeat (first | apply Kd.R_alloc | apply Kd.R_drewN | apply Kd.R_drew)); exact HO979.out))) (Kd.R_lt (by (with_reducible repeat (first | apply Kd.R_alloc | apply Kd.R_drewN | apply Kd.R_drew)); exact HO986.out))) (Kd.R_lt (by (with_reducible repeat (first | apply Kd.R_alloc | apply Kd.R_drewN | apply Kd.R_drew)); exact HO990.out))) (below_size (by repeat (first | (with_reducible first | exact HB.out | apply below_alloc | apply pw_below_drewN | apply below_drew1 | refine below_set ?_ GE965.out | refine below_set ?_ GE981.out | refine below_set ?_ GE987.out) | exact HB.out)))); have n6_ := Aside0.mk (blk_below (g := gb965) (o := .cells #[.int .i64 a0_0, .int .i64 a0_1, .slice A0_2 l0_2.length c0_2] 36 (0, 0)) BK965.out hb); have n7_ := Aside0.mk (blk_below (g := gb981) (o := .cells #[.int .i64 t975, .int .i64 t976, .slice Ao29 t977.length co29] 26 (0, 0)) BK981.out hb); have n8_ := Aside0.mk (blk_below (g := gb987) (o := .cells #[.int .i64 t982, .int .i64 t983, .slice Ao36 t984.length co36] 26 (0, 0)) BK987.out hb); have n9_ := Aside0.mk (below_step (by repeat (first | (with_reducible first | exact HB.out | apply below_alloc | apply pw_below_drewN | apply below_drew1 | refine below_set ?_ GE965.out | refine below_set ?_ GE981.out | refine below_set ?_ GE987.out) | exact HB.out)) hb); clear HO971; clear HO974; clear HO979; clear HO986; clear HO990; clear BK965; clear BK981; clear BK987; clear HB; have HO971 := n0_; have HO974 := n1_; have HO979 := n2_; have HO986 := n3_; have HO990 := n4_; have HO995 := n5_; have BK965 := n6_; have BK981 := n7_; have BK987 := n8_; have HB := n9_; clear n0_ n1_ n2_ n3_ n4_ n5_ n6_ n7_ n8_ n9_; (try clear hb); (try clear hb2); (try clear hk); (try clear hi); (try clear ho0)) | ((with_reducible refine gate_dst (N := 10) rfl ?_); refine box_event ?hg (N := 10) ?hd (cs := #[.int .i64 0, .int .i64 0, .slice none 0 0]) (t := 26) ?hr ?_; (case hd => rfl); (case hg => rfl); (case hr => first | (go_simp; done) | (go_simp; rfl)); intro gb997 hg w41 hbox hb; have n0_ := Aside0.mk (Kd.R_below (by (with_reducible repeat (first | apply Kd.R_alloc | apply Kd.R_drewN | apply Kd.R_drew)); exact HO971.out) hb); have n1_ := Aside0.mk (Kd.R_below (by (with_reducible repeat (first | apply Kd.R_alloc | apply Kd.R_drewN | apply Kd.R_drew)); exact HO974.out) hb); have n2_ := Aside0.mk (Kd.R_below (by (with_reducible repeat (first | apply Kd.R_alloc | apply Kd.R_drewN | apply Kd.R_drew)); exact HO979.out) hb); have n3_ := Aside0.mk (Kd.R_below (by (with_reducible repeat (first | apply Kd.R_alloc | apply Kd.R_drewN | apply Kd.R_drew)); exact HO986.out) hb); have n4_ := Aside0.mk (Kd.R_below (by (with_reducible repeat (first | apply Kd.R_alloc | apply Kd.R_drewN | apply Kd.R_drew)); exact HO990.out) hb); have n5_ := Aside0.mk (Kd.R_below (by (with_reducible repeat (first | apply Kd.R_alloc | apply Kd.R_drewN | apply Kd.R_drew)); exact HO995.out) hb); have n6_ := Aside0.mk (blk_below (g := gb965) (o := .cells #[.int .i64 a0_0, .int .i64 a0_1, .slice A0_2 l0_2.length c0_2] 36 (0, 0)) BK965.out hb); have n7_ := Aside0.mk (blk_below (g := gb981) (o := .cells #[.int .i64 t975, .int .i64 t976, .slice Ao29 t977.length co29] 26 (0, 0)) BK981.out hb); have n8_ := Aside0.mk (blk_below (g := gb987) (o := .cells #[.int .i64 t982, .int .i64 t983, .slice Ao36 t984.length co36] 26 (0, 0)) BK987.out hb); have n9_ := Aside0.mk (below_step (by repeat (first | (with_reducible first | exact HB.out | apply below_alloc | apply pw_below_drewN | apply below_drew1 | refine below_set ?_ GE965.out | refine below_set ?_ GE981.out | refine below_set ?_ GE987.out) | exact HB.out)) hb); have n10_ := Aside0.mk (hbox); have n11_ := Aside0.mk ((by rw [hg]; exact (below_size (by repeat (first | (with_reducible first | exact HB.out | apply below_alloc | apply pw_below_drewN | apply below_drew1 | refine below_set ?_ GE965.out | refine below_set ?_ GE981.out | refine below_set ?_ GE987.out) | exact HB.out))) : w.heap.size ≤ gb997)); have n12_ := Aside0.mk ((by rw [hg]; exact (below_size (by repeat (first | (with_reducible first | exact HB.out | apply below_alloc | apply pw_below_drewN | apply below_drew1 | refine below_set ?_ GE965.out | refine below_set ?_ GE981.out | refine below_set ?_ GE987.out) | exact HB.out))) : w.heap.size ≤ gb997)); have n13_ := Aside0.mk ((by rw [hg]; exact Nat.ne_of_lt (blk_lt (g := gb965) (o := .cells #[.int .i64 a0_0, .int .i64 a0_1, .slice A0_2 l0_2.length c0_2] 36 (0, 0)) BK965.out) : gb965 ≠ gb997)); have n14_ := Aside0.mk ((by rw [hg]; exact Nat.ne_of_gt (blk_lt (g := gb965) (o := .cells #[.int .i64 a0_0, .int .i64 a0_1, .slice A0_2 l0_2.length c0_2] 36 (0, 0)) BK965.out) : gb997 ≠ gb965)); have n15_ := Aside0.mk ((by rw [hg]; exact Nat.ne_of_lt (blk_lt (g := gb981) (o := .cells #[.int .i64 t975, .int .i64 t976, .slice Ao29 t977.length co29] 26 (0, 0)) BK981.out) : gb981 ≠ gb997)); have n16_ := Aside0.mk ((by rw [hg]; exact Nat.ne_of_gt (blk_lt (g := gb981) (o := .cells #[.int .i64 t975, .int .i64 t976, .slice Ao29 t977.length co29] 26 (0, 0)) BK981.out) : gb997 ≠ gb981)); have n17_ := Aside0.mk ((by rw [hg]; exact Nat.ne_of_lt (blk_lt (g := gb987) (o := .cells #[.int .i64 t982, .int .i64 t983, .slice Ao36 t984.length co36] 26 (0, 0)) BK987.out) : gb987 ≠ gb997)); have n18_ := Aside0.mk ((by rw [hg]; exact Nat.ne_of_gt (blk_lt (g := gb987) (o := .cells #[.int .i64 t982, .int .i64 t983, .slice Ao36 t984.length co36] 26 (0, 0)) BK987.out) : gb997 ≠ gb987)); clear HO971; clear HO974; clear HO979; clear HO986; clear HO990; clear HO995; clear BK965; clear BK981; clear BK987; clear HB; have HO971 := n0_; have HO974 := n1_; have HO979 := n2_; have HO986 := n3_; have HO990 := n4_; have HO995 := n5_; have BK965 := n6_; have BK981 := n7_; have BK987 := n8_; have HB := n9_; have BK997 := n10_; have GW997 := n11_; have GE997 := n12_; have NB965_997 := n13_; have NB997_965 := n14_; have NB981_997 := n15_; have NB997_981 := n16_; have NB987_997 := n17_; have NB997_987 := n18_; clear n0_ n1_ n2_ n3_ n4_ n5_ n6_ n7_ n8_ n9_ n10_ n11_ n12_ n13_ n14_ n15_ n16_ n17_ n18_; clear hb hbox hg; have hnb42 := NB997_965.out; have hnc42 := NB965_997.out; have hnb43 := NB997_981.out; have hnc43 := NB981_997.out; have hnb44 := NB997_987.out; have hnc44 := NB987_997.out; have hcz45_0 : w41.cell? ⟨gb997, 0, none⟩ = some (.int .i64 0) := (blk_cell BK997.out 0).trans rfl; have hcz45_1 : w41.cell? ⟨gb997, 1, none⟩ = some (.int .i64 0) := (blk_cell BK997.out 1).trans rfl; have hcz45_2 : w41.cell? ⟨gb997, 2, none⟩ = some (.slice none 0 0) := (blk_cell BK997.out 2).trans rfl; have hfz45_0 := blk_frozen BK997.out 0; have hfz45_1 := blk_frozen BK997.out 1; have hfz45_2 := blk_frozen BK997.out 2; obtain ⟨Ao46, co46, eo46⟩ := Kd.R_slice HO995.out; subst eo46))
      (try simp only [Act.put, List.setIfInBounds_toArray, List.set_cons_zero, List.set_cons_succ])
      go_cut [51] (fun v51 wc => ∃ (kq : Nat) (x51_15 : Bool), v51 = .bool x51_15 ∧ Aside0 (laws_FnExactSpreadMean.j0 kq l1 t980 t988 t996 x51_15 a0_0 a0_1 l0_2 t975 t976 t977 t982 t983 t984 t991 t992 t993 = some r) ∧ Aside0 (kq ≤ k) ∧ Aside0 (Kd.R (Kd.int .i64) 3 wc w.heap.size (fun k_ => some k_ ≠ ((.slice Ao29 t977.length co29) : Value).ownBlock ∧ some k_ ≠ ((.slice Ao36 t984.length co36) : Value).ownBlock ∧ some k_ ≠ ((.slice Ao46 t993.length co46) : Value).ownBlock) (.slice Ao39 t988.length co39) t988) ∧ Aside0 (Kd.R (Kd.int .i64) 3 wc w.heap.size (fun k_ => some k_ ≠ ((.slice Ao39 t988.length co39) : Value).ownBlock ∧ some k_ ≠ ((.slice Ao36 t984.length co36) : Value).ownBlock ∧ some k_ ≠ ((.slice Ao46 t993.length co46) : Value).ownBlock) (.slice Ao29 t977.length co29) t977) ∧ Aside0 (Kd.R (Kd.int .i64) 3 wc w.heap.size (fun k_ => some k_ ≠ ((.slice Ao39 t988.length co39) : Value).ownBlock ∧ some k_ ≠ ((.slice Ao29 t977.length co29) : Value).ownBlock ∧ some k_ ≠ ((.slice Ao46 t993.length co46) : Value).ownBlock) (.slice Ao36 t984.length co36) t984) ∧ Aside0 (Kd.R (Kd.int .i64) 3 wc w.heap.size (fun k_ => some k_ ≠ ((.slice Ao39 t988.length co39) : Value).ownBlock ∧ some k_ ≠ ((.slice Ao29 t977.length co29) : Value).ownBlock ∧ some k_ ≠ ((.slice Ao36 t984.length co36) : Value).ownBlock) (.slice Ao46 t993.length co46) t993) ∧ Aside0 (wc.heap[gb965]? = some (.cells #[.int .i64 a0_0, .int .i64 a0_1, (.slice A0_2 l0_2.length c0_2)] 36 (0, 0))) ∧ Aside0 (wc.heap[gb981]? = some (.cells #[.int .i64 t975, .int .i64 t976, (.slice Ao29 t977.length co29)] 26 (0, 0))) ∧ Aside0 (wc.heap[gb987]? = some (.cells #[.int .i64 t982, .int .i64 t983, (.slice Ao36 t984.length co36)] 26 (0, 0))) ∧ Aside0 (wc.heap[gb997]? = some (.cells #[.int .i64 t991, .int .i64 t992, (.slice Ao46 t993.length co46)] 26 (0, 0))) ∧ Aside0 (Below w.heap.size w wc))
      case first =>
        as_aux_lemma =>
          have H := HC16.out
          clear HC16
          replace H := Option.bind_eq_some_iff.mp H
          obtain ⟨t998, A470, H⟩ := H
          replace H : (if t998 = true then (laws_FnExactSpreadMean.j0 k l1 t980 t988 t996 (t996 != t980) a0_0 a0_1 l0_2 t975 t976 t977 t982 t983 t984 t991 t992 t993) else (laws_FnExactSpreadMean.j0 k l1 t980 t988 t996 true a0_0 a0_1 l0_2 t975 t976 t977 t982 t983 t984 t991 t992 t993)) = some r := H
          have A47 := Aside0.mk A470
          clear A470
          by_cases c48 : t998 = true
          · subst c48
            have H1 : (laws_FnExactSpreadMean.j0 k l1 t980 t988 t996 (t996 != t980) a0_0 a0_1 l0_2 t975 t976 t977 t982 t983 t984 t991 t992 t993) = some r := by rw [if_pos rfl] at H; exact H
            clear H
            have H := H1
            clear H1
            have H' := Aside0.mk H
            clear H
            have hnb49 := NB997_965.out
            have hnc49 := NB965_997.out
            have hnb50 := NB997_981.out
            have hnc50 := NB981_997.out
            have hnb51 := NB997_987.out
            have hnc51 := NB987_997.out
            have hcz52_0 : w41.cell? ⟨gb997, 0, none⟩ = some (.int .i64 0) := (blk_cell BK997.out 0).trans rfl
            have hcz52_1 : w41.cell? ⟨gb997, 1, none⟩ = some (.int .i64 0) := (blk_cell BK997.out 1).trans rfl
            have hcz52_2 : w41.cell? ⟨gb997, 2, none⟩ = some (.slice none 0 0) := (blk_cell BK997.out 2).trans rfl
            have hfz52_0 := blk_frozen BK997.out 0
            have hfz52_1 := blk_frozen BK997.out 1
            have hfz52_2 := blk_frozen BK997.out 2
            have hnb53 := NB981_965.out
            have hnc53 := NB965_981.out
            have hnb54 := NB981_987.out
            have hnc54 := NB987_981.out
            have hcz55_0 : w41.cell? ⟨gb981, 0, none⟩ = some (.int .i64 t975) := (blk_cell BK981.out 0).trans rfl
            have hcz55_1 : w41.cell? ⟨gb981, 1, none⟩ = some (.int .i64 t976) := (blk_cell BK981.out 1).trans rfl
            have hcz55_2 : w41.cell? ⟨gb981, 2, none⟩ = some (.slice Ao29 t977.length co29) := (blk_cell BK981.out 2).trans rfl
            have hfz55_0 := blk_frozen BK981.out 0
            have hfz55_1 := blk_frozen BK981.out 1
            have hfz55_2 := blk_frozen BK981.out 2
            go_wp2_with (first | ((with_reducible refine gate_callee (f := 25) rfl ?_); refine goesL_ (some 45) rfl rfl Try.func25 (by kernel_rfl) rfl #[.agg #[.int .i64 t991, .int .i64 t992, .slice Ao46 t993.length co46], .agg #[.int .i64 t975, .int .i64 t976, .slice Ao29 t977.length co29]] rfl (by (try simp only [List.map_toArray, List.map_cons, List.map_nil]); first | done | rfl | (simp only [List.length_drop, List.length_take]; rfl)) ?_; (with_reducible refine (laws_eqField.calls k t991 t992 _ _ t993 t975 t976 _ _ t977 true _ ?side1 ?side2 ?side3 ?side4 A47.out).mono ?_); (case side1 => refine (Kd.R_reads' (e := 3) (base := w.heap.size) (ok := fun k_ => (((((True ∧ some k_ ≠ (.slice Ao23 t969.length co23 : Value).ownBlock) ∧ some k_ ≠ (.slice Ao24 t972.length co24 : Value).ownBlock) ∧ some k_ ≠ (.slice Ao29 t977.length co29 : Value).ownBlock) ∧ some k_ ≠ (.slice Ao36 t984.length co36 : Value).ownBlock) ∧ some k_ ≠ (.slice Ao39 t988.length co39 : Value).ownBlock)) (n := t993.length) (c := co46) ?_).2.2; exact (by (with_reducible repeat (first | apply Kd.R_alloc | apply Kd.R_drewN | apply Kd.R_drew)); exact (Kd.R_mono (Kd.R_far (p := ⟨gb997, 2, none⟩) (Kd.R_far (p := ⟨gb997, 1, none⟩) (Kd.R_far (p := ⟨gb997, 0, none⟩) (Kd.R_types HO995.out BK997.out (by decide)) (fun _ hk => hk.2) (.int .i64 t991)) (fun _ hk => hk.2) (.int .i64 t992)) (fun _ hk => hk.2) (.slice Ao46 t993.length co46)) (fun _ h_ => h_.1)))); (case side2 => exact (Kd.R_reads' HO995.out).2.1); (case side3 => refine (Kd.R_reads' (e := 3) (base := w.heap.size) (ok := fun k_ => (((((True ∧ some k_ ≠ (.slice Ao23 t969.length co23 : Value).ownBlock) ∧ some k_ ≠ (.slice Ao24 t972.length co24 : Value).ownBlock) ∧ some k_ ≠ (.slice Ao36 t984.length co36 : Value).ownBlock) ∧ some k_ ≠ (.slice Ao39 t988.length co39 : Value).ownBlock) ∧ some k_ ≠ (.slice Ao46 t993.length co46 : Value).ownBlock)) (n := t977.length) (c := co29) ?_).2.2; exact (by (with_reducible repeat (first | apply Kd.R_alloc | apply Kd.R_drewN | apply Kd.R_drew)); exact (Kd.R_mono (Kd.R_far (p := ⟨gb997, 2, none⟩) (Kd.R_far (p := ⟨gb997, 1, none⟩) (Kd.R_far (p := ⟨gb997, 0, none⟩) (Kd.R_types HO979.out BK997.out (by decide)) (fun _ hk => hk.2) (.int .i64 t991)) (fun _ hk => hk.2) (.int .i64 t992)) (fun _ hk => hk.2) (.slice Ao46 t993.length co46)) (fun _ h_ => h_.1)))); (case side4 => exact (Kd.R_reads' HO979.out).2.1); rintro e w56 ⟨rfl, hb⟩; refine ⟨_, rfl, ?_⟩; have n0_ := Aside0.mk (Kd.R_below (by (with_reducible repeat (first | apply Kd.R_alloc | apply Kd.R_drewN | apply Kd.R_drew)); exact (Kd.R_mono (Kd.R_far (p := ⟨gb997, 2, none⟩) (Kd.R_far (p := ⟨gb997, 1, none⟩) (Kd.R_far (p := ⟨gb997, 0, none⟩) (Kd.R_types HO971.out BK997.out (by decide)) (fun _ hk => hk.2) (.int .i64 t991)) (fun _ hk => hk.2) (.int .i64 t992)) (fun _ hk => hk.2) (.slice Ao46 t993.length co46)) (fun _ h_ => h_.1))) hb); have n1_ := Aside0.mk (Kd.R_below (by (with_reducible repeat (first | apply Kd.R_alloc | apply Kd.R_drewN | apply Kd.R_drew)); exact (Kd.R_mono (Kd.R_far (p := ⟨gb997, 2, none⟩) (Kd.R_far (p := ⟨gb997, 1, none⟩) (Kd.R_far (p := ⟨gb997, 0, none⟩) (Kd.R_types HO974.out BK997.out (by decide)) (fun _ hk => hk.2) (.int .i64 t991)) (fun _ hk => hk.2) (.int .i64 t992)) (fun _ hk => hk.2) (.slice Ao46 t993.length co46)) (fun _ h_ => h_.1))) hb); have n2_ := Aside0.mk (Kd.R_below (by (with_reducible repeat (first | apply Kd.R_alloc | apply Kd.R_drewN | apply Kd.R_drew)); exact (Kd.R_mono (Kd.R_far (p := ⟨gb997, 2, none⟩) (Kd.R_far (p := ⟨gb997, 1, none⟩) (Kd.R_far (p := ⟨gb997, 0, none⟩) (Kd.R_types HO979.out BK997.out (by decide)) (fun _ hk => hk.2) (.int .i64 t991)) (fun _ hk => hk.2) (.int .i64 t992)) (fun _ hk => hk.2) (.slice Ao46 t993.length co46)) (fun _ h_ => h_.1))) hb); have n3_ := Aside0.mk (Kd.R_below (by (with_reducible repeat (first | apply Kd.R_alloc | apply Kd.R_drewN | apply Kd.R_drew)); exact (Kd.R_mono (Kd.R_far (p := ⟨gb997, 2, none⟩) (Kd.R_far (p := ⟨gb997, 1, none⟩) (Kd.R_far (p := ⟨gb997, 0, none⟩) (Kd.R_types HO986.out BK997.out (by decide)) (fun _ hk => hk.2) (.int .i64 t991)) (fun _ hk => hk.2) (.int .i64 t992)) (fun _ hk => hk.2) (.slice Ao46 t993.length co46)) (fun _ h_ => h_.1))) hb); have n4_ := Aside0.mk (Kd.R_below (by (with_reducible repeat (first | apply Kd.R_alloc | apply Kd.R_drewN | apply Kd.R_drew)); exact (Kd.R_mono (Kd.R_far (p := ⟨gb997, 2, none⟩) (Kd.R_far (p := ⟨gb997, 1, none⟩) (Kd.R_far (p := ⟨gb997, 0, none⟩) (Kd.R_types HO990.out BK997.out (by decide)) (fun _ hk => hk.2) (.int .i64 t991)) (fun _ hk => hk.2) (.int .i64 t992)) (fun _ hk => hk.2) (.slice Ao46 t993.length co46)) (fun _ h_ => h_.1))) hb); have n5_ := Aside0.mk (Kd.R_below (by (with_reducible repeat (first | apply Kd.R_alloc | apply Kd.R_drewN | apply Kd.R_drew)); exact (Kd.R_mono (Kd.R_far (p := ⟨gb997, 2, none⟩) (Kd.R_far (p := ⟨gb997, 1, none⟩) (Kd.R_far (p := ⟨gb997, 0, none⟩) (Kd.R_types HO995.out BK997.out (by decide)) (fun _ hk => hk.2) (.int .i64 t991)) (fun _ hk => hk.2) (.int .i64 t992)) (fun _ hk => hk.2) (.slice Ao46 t993.length co46)) (fun _ h_ => h_.1))) hb); have n6_ := Aside0.mk (blk_below (g := gb965) (o := .cells #[.int .i64 a0_0, .int .i64 a0_1, .slice A0_2 l0_2.length c0_2] 36 (0, 0)) (by (with_reducible repeat (first | refine blk_drewN ?_ _ | refine blk_drew ?_ | refine blk_alloc ?_ _)); refine blk_far ?_ NB965_997.out _; (with_reducible repeat (first | refine blk_drewN ?_ _ | refine blk_drew ?_ | refine blk_alloc ?_ _)); refine blk_far ?_ NB965_997.out _; (with_reducible repeat (first | refine blk_drewN ?_ _ | refine blk_drew ?_ | refine blk_alloc ?_ _)); refine blk_far ?_ NB965_997.out _; (with_reducible repeat (first | refine blk_drewN ?_ _ | refine blk_drew ?_ | refine blk_alloc ?_ _)); exact BK965.out) hb); have n7_ := Aside0.mk (blk_below (g := gb981) (o := .cells #[.int .i64 t975, .int .i64 t976, .slice Ao29 t977.length co29] 26 (0, 0)) (by (with_reducible repeat (first | refine blk_drewN ?_ _ | refine blk_drew ?_ | refine blk_alloc ?_ _)); refine blk_far ?_ NB981_997.out _; (with_reducible repeat (first | refine blk_drewN ?_ _ | refine blk_drew ?_ | refine blk_alloc ?_ _)); refine blk_far ?_ NB981_997.out _; (with_reducible repeat (first | refine blk_drewN ?_ _ | refine blk_drew ?_ | refine blk_alloc ?_ _)); refine blk_far ?_ NB981_997.out _; (with_reducible repeat (first | refine blk_drewN ?_ _ | refine blk_drew ?_ | refine blk_alloc ?_ _)); exact BK981.out) hb); have n8_ := Aside0.mk (blk_below (g := gb987) (o := .cells #[.int .i64 t982, .int .i64 t983, .slice Ao36 t984.length co36] 26 (0, 0)) (by (with_reducible repeat (first | refine blk_drewN ?_ _ | refine blk_drew ?_ | refine blk_alloc ?_ _)); refine blk_far ?_ NB987_997.out _; (with_reducible repeat (first | refine blk_drewN ?_ _ | refine blk_drew ?_ | refine blk_alloc ?_ _)); refine blk_far ?_ NB987_997.out _; (with_reducible repeat (first | refine blk_drewN ?_ _ | refine blk_drew ?_ | refine blk_alloc ?_ _)); refine blk_far ?_ NB987_997.out _; (with_reducible repeat (first | refine blk_drewN ?_ _ | refine blk_drew ?_ | refine blk_alloc ?_ _)); exact BK987.out) hb); have n9_ := Aside0.mk (blk_below (g := gb997) (o := .cells #[.int .i64 t991, .int .i64 t992, .slice Ao46 t993.length co46] 26 (0, 0)) (by (with_reducible repeat (first | refine blk_drewN ?_ _ | refine blk_drew ?_ | refine blk_alloc ?_ _)); refine blk_put (cs := #[.int .i64 t991, .int .i64 t992, .slice none 0 0]) ?_ 2 _ rfl; (with_reducible repeat (first | refine blk_drewN ?_ _ | refine blk_drew ?_ | refine blk_alloc ?_ _)); refine blk_put (cs := #[.int .i64 t991, .int .i64 0, .slice none 0 0]) ?_ 1 _ rfl; (with_reducible repeat (first | refine blk_drewN ?_ _ | refine blk_drew ?_ | refine blk_alloc ?_ _)); refine blk_put (cs := #[.int .i64 0, .int .i64 0, .slice none 0 0]) ?_ 0 _ rfl; (with_reducible repeat (first | refine blk_drewN ?_ _ | refine blk_drew ?_ | refine blk_alloc ?_ _)); exact BK997.out) hb); have n10_ := Aside0.mk (below_step (by repeat (first | (with_reducible first | exact HB.out | apply below_alloc | apply pw_below_drewN | apply below_drew1 | refine below_set ?_ GE965.out | refine below_set ?_ GE981.out | refine below_set ?_ GE987.out | refine below_set ?_ GE997.out) | exact HB.out)) hb); clear HO971; clear HO974; clear HO979; clear HO986; clear HO990; clear HO995; clear BK965; clear BK981; clear BK987; clear BK997; clear HB; have HO971 := n0_; have HO974 := n1_; have HO979 := n2_; have HO986 := n3_; have HO990 := n4_; have HO995 := n5_; have BK965 := n6_; have BK981 := n7_; have BK987 := n8_; have BK997 := n9_; have HB := n10_; clear n0_ n1_ n2_ n3_ n4_ n5_ n6_ n7_ n8_ n9_ n10_; (try clear hb); (try clear hb2); (try clear hk); (try clear hi)))
            go_meet
            case rel => exact ⟨_, ((t996 != t980)), (by first | rfl | (simp; done) | (simp [*]; done)), H', ⟨by first | omega | exact Nat.le_refl _⟩, ⟨by (with_reducible repeat (first | apply Kd.R_alloc | apply Kd.R_drewN | apply Kd.R_drew)); exact Kd.R_mono HO990.out (fun _ hk => ⟨hk.1.1.2, ⟨hk.1.2, hk.2⟩⟩)⟩, ⟨by (with_reducible repeat (first | apply Kd.R_alloc | apply Kd.R_drewN | apply Kd.R_drew)); exact Kd.R_mono HO979.out (fun _ hk => ⟨hk.1.2, ⟨hk.1.1.2, hk.2⟩⟩)⟩, ⟨by (with_reducible repeat (first | apply Kd.R_alloc | apply Kd.R_drewN | apply Kd.R_drew)); exact Kd.R_mono HO986.out (fun _ hk => ⟨hk.1.2, ⟨hk.1.1.2, hk.2⟩⟩)⟩, ⟨by (with_reducible repeat (first | apply Kd.R_alloc | apply Kd.R_drewN | apply Kd.R_drew)); exact Kd.R_mono HO995.out (fun _ hk => ⟨hk.2, ⟨hk.1.1.2, hk.1.2⟩⟩)⟩, ⟨by (with_reducible repeat (first | refine blk_drewN ?_ _ | refine blk_drew ?_ | refine blk_alloc ?_ _)); exact BK965.out⟩, ⟨by (with_reducible repeat (first | refine blk_drewN ?_ _ | refine blk_drew ?_ | refine blk_alloc ?_ _)); exact BK981.out⟩, ⟨by (with_reducible repeat (first | refine blk_drewN ?_ _ | refine blk_drew ?_ | refine blk_alloc ?_ _)); exact BK987.out⟩, ⟨by (with_reducible repeat (first | refine blk_drewN ?_ _ | refine blk_drew ?_ | refine blk_alloc ?_ _)); exact BK997.out⟩, ⟨by repeat (first | (with_reducible first | exact HB.out | apply below_alloc | apply pw_below_drewN | apply below_drew1 | refine below_set ?_ GE965.out | refine below_set ?_ GE981.out | refine below_set ?_ GE987.out | refine below_set ?_ GE997.out) | exact HB.out)⟩⟩
          · replace c48 := Bool.eq_false_iff.mpr c48
            subst c48
            have H1 : (laws_FnExactSpreadMean.j0 k l1 t980 t988 t996 true a0_0 a0_1 l0_2 t975 t976 t977 t982 t983 t984 t991 t992 t993) = some r := by rw [if_neg (show ¬ (false = true) by decide)] at H; exact H
            clear H
            have H := H1
            clear H1
            have H' := Aside0.mk H
            clear H
            have hnb57 := NB997_965.out
            have hnc57 := NB965_997.out
            have hnb58 := NB997_981.out
            have hnc58 := NB981_997.out
            have hnb59 := NB997_987.out
            have hnc59 := NB987_997.out
            have hcz60_0 : w41.cell? ⟨gb997, 0, none⟩ = some (.int .i64 0) := (blk_cell BK997.out 0).trans rfl
            have hcz60_1 : w41.cell? ⟨gb997, 1, none⟩ = some (.int .i64 0) := (blk_cell BK997.out 1).trans rfl
            have hcz60_2 : w41.cell? ⟨gb997, 2, none⟩ = some (.slice none 0 0) := (blk_cell BK997.out 2).trans rfl
            have hfz60_0 := blk_frozen BK997.out 0
            have hfz60_1 := blk_frozen BK997.out 1
            have hfz60_2 := blk_frozen BK997.out 2
            have hnb61 := NB981_965.out
            have hnc61 := NB965_981.out
            have hnb62 := NB981_987.out
            have hnc62 := NB987_981.out
            have hcz63_0 : w41.cell? ⟨gb981, 0, none⟩ = some (.int .i64 t975) := (blk_cell BK981.out 0).trans rfl
            have hcz63_1 : w41.cell? ⟨gb981, 1, none⟩ = some (.int .i64 t976) := (blk_cell BK981.out 1).trans rfl
            have hcz63_2 : w41.cell? ⟨gb981, 2, none⟩ = some (.slice Ao29 t977.length co29) := (blk_cell BK981.out 2).trans rfl
            have hfz63_0 := blk_frozen BK981.out 0
            have hfz63_1 := blk_frozen BK981.out 1
            have hfz63_2 := blk_frozen BK981.out 2
            go_wp2_with (first | ((with_reducible refine gate_callee (f := 25) rfl ?_); refine goesL_ (some 45) rfl rfl Try.func25 (by kernel_rfl) rfl #[.agg #[.int .i64 t991, .int .i64 t992, .slice Ao46 t993.length co46], .agg #[.int .i64 t975, .int .i64 t976, .slice Ao29 t977.length co29]] rfl (by (try simp only [List.map_toArray, List.map_cons, List.map_nil]); first | done | rfl | (simp only [List.length_drop, List.length_take]; rfl)) ?_; (with_reducible refine (laws_eqField.calls k t991 t992 _ _ t993 t975 t976 _ _ t977 false _ ?side1 ?side2 ?side3 ?side4 A47.out).mono ?_); (case side1 => refine (Kd.R_reads' (e := 3) (base := w.heap.size) (ok := fun k_ => (((((True ∧ some k_ ≠ (.slice Ao23 t969.length co23 : Value).ownBlock) ∧ some k_ ≠ (.slice Ao24 t972.length co24 : Value).ownBlock) ∧ some k_ ≠ (.slice Ao29 t977.length co29 : Value).ownBlock) ∧ some k_ ≠ (.slice Ao36 t984.length co36 : Value).ownBlock) ∧ some k_ ≠ (.slice Ao39 t988.length co39 : Value).ownBlock)) (n := t993.length) (c := co46) ?_).2.2; exact (by (with_reducible repeat (first | apply Kd.R_alloc | apply Kd.R_drewN | apply Kd.R_drew)); exact (Kd.R_mono (Kd.R_far (p := ⟨gb997, 2, none⟩) (Kd.R_far (p := ⟨gb997, 1, none⟩) (Kd.R_far (p := ⟨gb997, 0, none⟩) (Kd.R_types HO995.out BK997.out (by decide)) (fun _ hk => hk.2) (.int .i64 t991)) (fun _ hk => hk.2) (.int .i64 t992)) (fun _ hk => hk.2) (.slice Ao46 t993.length co46)) (fun _ h_ => h_.1)))); (case side2 => exact (Kd.R_reads' HO995.out).2.1); (case side3 => refine (Kd.R_reads' (e := 3) (base := w.heap.size) (ok := fun k_ => (((((True ∧ some k_ ≠ (.slice Ao23 t969.length co23 : Value).ownBlock) ∧ some k_ ≠ (.slice Ao24 t972.length co24 : Value).ownBlock) ∧ some k_ ≠ (.slice Ao36 t984.length co36 : Value).ownBlock) ∧ some k_ ≠ (.slice Ao39 t988.length co39 : Value).ownBlock) ∧ some k_ ≠ (.slice Ao46 t993.length co46 : Value).ownBlock)) (n := t977.length) (c := co29) ?_).2.2; exact (by (with_reducible repeat (first | apply Kd.R_alloc | apply Kd.R_drewN | apply Kd.R_drew)); exact (Kd.R_mono (Kd.R_far (p := ⟨gb997, 2, none⟩) (Kd.R_far (p := ⟨gb997, 1, none⟩) (Kd.R_far (p := ⟨gb997, 0, none⟩) (Kd.R_types HO979.out BK997.out (by decide)) (fun _ hk => hk.2) (.int .i64 t991)) (fun _ hk => hk.2) (.int .i64 t992)) (fun _ hk => hk.2) (.slice Ao46 t993.length co46)) (fun _ h_ => h_.1)))); (case side4 => exact (Kd.R_reads' HO979.out).2.1); rintro e w64 ⟨rfl, hb⟩; refine ⟨_, rfl, ?_⟩; have n0_ := Aside0.mk (Kd.R_below (by (with_reducible repeat (first | apply Kd.R_alloc | apply Kd.R_drewN | apply Kd.R_drew)); exact (Kd.R_mono (Kd.R_far (p := ⟨gb997, 2, none⟩) (Kd.R_far (p := ⟨gb997, 1, none⟩) (Kd.R_far (p := ⟨gb997, 0, none⟩) (Kd.R_types HO971.out BK997.out (by decide)) (fun _ hk => hk.2) (.int .i64 t991)) (fun _ hk => hk.2) (.int .i64 t992)) (fun _ hk => hk.2) (.slice Ao46 t993.length co46)) (fun _ h_ => h_.1))) hb); have n1_ := Aside0.mk (Kd.R_below (by (with_reducible repeat (first | apply Kd.R_alloc | apply Kd.R_drewN | apply Kd.R_drew)); exact (Kd.R_mono (Kd.R_far (p := ⟨gb997, 2, none⟩) (Kd.R_far (p := ⟨gb997, 1, none⟩) (Kd.R_far (p := ⟨gb997, 0, none⟩) (Kd.R_types HO974.out BK997.out (by decide)) (fun _ hk => hk.2) (.int .i64 t991)) (fun _ hk => hk.2) (.int .i64 t992)) (fun _ hk => hk.2) (.slice Ao46 t993.length co46)) (fun _ h_ => h_.1))) hb); have n2_ := Aside0.mk (Kd.R_below (by (with_reducible repeat (first | apply Kd.R_alloc | apply Kd.R_drewN | apply Kd.R_drew)); exact (Kd.R_mono (Kd.R_far (p := ⟨gb997, 2, none⟩) (Kd.R_far (p := ⟨gb997, 1, none⟩) (Kd.R_far (p := ⟨gb997, 0, none⟩) (Kd.R_types HO979.out BK997.out (by decide)) (fun _ hk => hk.2) (.int .i64 t991)) (fun _ hk => hk.2) (.int .i64 t992)) (fun _ hk => hk.2) (.slice Ao46 t993.length co46)) (fun _ h_ => h_.1))) hb); have n3_ := Aside0.mk (Kd.R_below (by (with_reducible repeat (first | apply Kd.R_alloc | apply Kd.R_drewN | apply Kd.R_drew)); exact (Kd.R_mono (Kd.R_far (p := ⟨gb997, 2, none⟩) (Kd.R_far (p := ⟨gb997, 1, none⟩) (Kd.R_far (p := ⟨gb997, 0, none⟩) (Kd.R_types HO986.out BK997.out (by decide)) (fun _ hk => hk.2) (.int .i64 t991)) (fun _ hk => hk.2) (.int .i64 t992)) (fun _ hk => hk.2) (.slice Ao46 t993.length co46)) (fun _ h_ => h_.1))) hb); have n4_ := Aside0.mk (Kd.R_below (by (with_reducible repeat (first | apply Kd.R_alloc | apply Kd.R_drewN | apply Kd.R_drew)); exact (Kd.R_mono (Kd.R_far (p := ⟨gb997, 2, none⟩) (Kd.R_far (p := ⟨gb997, 1, none⟩) (Kd.R_far (p := ⟨gb997, 0, none⟩) (Kd.R_types HO990.out BK997.out (by decide)) (fun _ hk => hk.2) (.int .i64 t991)) (fun _ hk => hk.2) (.int .i64 t992)) (fun _ hk => hk.2) (.slice Ao46 t993.length co46)) (fun _ h_ => h_.1))) hb); have n5_ := Aside0.mk (Kd.R_below (by (with_reducible repeat (first | apply Kd.R_alloc | apply Kd.R_drewN | apply Kd.R_drew)); exact (Kd.R_mono (Kd.R_far (p := ⟨gb997, 2, none⟩) (Kd.R_far (p := ⟨gb997, 1, none⟩) (Kd.R_far (p := ⟨gb997, 0, none⟩) (Kd.R_types HO995.out BK997.out (by decide)) (fun _ hk => hk.2) (.int .i64 t991)) (fun _ hk => hk.2) (.int .i64 t992)) (fun _ hk => hk.2) (.slice Ao46 t993.length co46)) (fun _ h_ => h_.1))) hb); have n6_ := Aside0.mk (blk_below (g := gb965) (o := .cells #[.int .i64 a0_0, .int .i64 a0_1, .slice A0_2 l0_2.length c0_2] 36 (0, 0)) (by (with_reducible repeat (first | refine blk_drewN ?_ _ | refine blk_drew ?_ | refine blk_alloc ?_ _)); refine blk_far ?_ NB965_997.out _; (with_reducible repeat (first | refine blk_drewN ?_ _ | refine blk_drew ?_ | refine blk_alloc ?_ _)); refine blk_far ?_ NB965_997.out _; (with_reducible repeat (first | refine blk_drewN ?_ _ | refine blk_drew ?_ | refine blk_alloc ?_ _)); refine blk_far ?_ NB965_997.out _; (with_reducible repeat (first | refine blk_drewN ?_ _ | refine blk_drew ?_ | refine blk_alloc ?_ _)); exact BK965.out) hb); have n7_ := Aside0.mk (blk_below (g := gb981) (o := .cells #[.int .i64 t975, .int .i64 t976, .slice Ao29 t977.length co29] 26 (0, 0)) (by (with_reducible repeat (first | refine blk_drewN ?_ _ | refine blk_drew ?_ | refine blk_alloc ?_ _)); refine blk_far ?_ NB981_997.out _; (with_reducible repeat (first | refine blk_drewN ?_ _ | refine blk_drew ?_ | refine blk_alloc ?_ _)); refine blk_far ?_ NB981_997.out _; (with_reducible repeat (first | refine blk_drewN ?_ _ | refine blk_drew ?_ | refine blk_alloc ?_ _)); refine blk_far ?_ NB981_997.out _; (with_reducible repeat (first | refine blk_drewN ?_ _ | refine blk_drew ?_ | refine blk_alloc ?_ _)); exact BK981.out) hb); have n8_ := Aside0.mk (blk_below (g := gb987) (o := .cells #[.int .i64 t982, .int .i64 t983, .slice Ao36 t984.length co36] 26 (0, 0)) (by (with_reducible repeat (first | refine blk_drewN ?_ _ | refine blk_drew ?_ | refine blk_alloc ?_ _)); refine blk_far ?_ NB987_997.out _; (with_reducible repeat (first | refine blk_drewN ?_ _ | refine blk_drew ?_ | refine blk_alloc ?_ _)); refine blk_far ?_ NB987_997.out _; (with_reducible repeat (first | refine blk_drewN ?_ _ | refine blk_drew ?_ | refine blk_alloc ?_ _)); refine blk_far ?_ NB987_997.out _; (with_reducible repeat (first | refine blk_drewN ?_ _ | refine blk_drew ?_ | refine blk_alloc ?_ _)); exact BK987.out) hb); have n9_ := Aside0.mk (blk_below (g := gb997) (o := .cells #[.int .i64 t991, .int .i64 t992, .slice Ao46 t993.length co46] 26 (0, 0)) (by (with_reducible repeat (first | refine blk_drewN ?_ _ | refine blk_drew ?_ | refine blk_alloc ?_ _)); refine blk_put (cs := #[.int .i64 t991, .int .i64 t992, .slice none 0 0]) ?_ 2 _ rfl; (with_reducible repeat (first | refine blk_drewN ?_ _ | refine blk_drew ?_ | refine blk_alloc ?_ _)); refine blk_put (cs := #[.int .i64 t991, .int .i64 0, .slice none 0 0]) ?_ 1 _ rfl; (with_reducible repeat (first | refine blk_drewN ?_ _ | refine blk_drew ?_ | refine blk_alloc ?_ _)); refine blk_put (cs := #[.int .i64 0, .int .i64 0, .slice none 0 0]) ?_ 0 _ rfl; (with_reducible repeat (first | refine blk_drewN ?_ _ | refine blk_drew ?_ | refine blk_alloc ?_ _)); exact BK997.out) hb); have n10_ := Aside0.mk (below_step (by repeat (first | (with_reducible first | exact HB.out | apply below_alloc | apply pw_below_drewN | apply below_drew1 | refine below_set ?_ GE965.out | refine below_set ?_ GE981.out | refine below_set ?_ GE987.out | refine below_set ?_ GE997.out) | exact HB.out)) hb); clear HO971; clear HO974; clear HO979; clear HO986; clear HO990; clear HO995; clear BK965; clear BK981; clear BK987; clear BK997; clear HB; have HO971 := n0_; have HO974 := n1_; have HO979 := n2_; have HO986 := n3_; have HO990 := n4_; have HO995 := n5_; have BK965 := n6_; have BK981 := n7_; have BK987 := n8_; have BK997 := n9_; have HB := n10_; clear n0_ n1_ n2_ n3_ n4_ n5_ n6_ n7_ n8_ n9_ n10_; (try clear hb); (try clear hb2); (try clear hk); (try clear hi)))
            go_meet
            case rel => exact ⟨_, (true), (by first | rfl | (simp; done) | (simp [*]; done)), H', ⟨by first | omega | exact Nat.le_refl _⟩, ⟨by (with_reducible repeat (first | apply Kd.R_alloc | apply Kd.R_drewN | apply Kd.R_drew)); exact Kd.R_mono HO990.out (fun _ hk => ⟨hk.1.1.2, ⟨hk.1.2, hk.2⟩⟩)⟩, ⟨by (with_reducible repeat (first | apply Kd.R_alloc | apply Kd.R_drewN | apply Kd.R_drew)); exact Kd.R_mono HO979.out (fun _ hk => ⟨hk.1.2, ⟨hk.1.1.2, hk.2⟩⟩)⟩, ⟨by (with_reducible repeat (first | apply Kd.R_alloc | apply Kd.R_drewN | apply Kd.R_drew)); exact Kd.R_mono HO986.out (fun _ hk => ⟨hk.1.2, ⟨hk.1.1.2, hk.2⟩⟩)⟩, ⟨by (with_reducible repeat (first | apply Kd.R_alloc | apply Kd.R_drewN | apply Kd.R_drew)); exact Kd.R_mono HO995.out (fun _ hk => ⟨hk.2, ⟨hk.1.1.2, hk.1.2⟩⟩)⟩, ⟨by (with_reducible repeat (first | refine blk_drewN ?_ _ | refine blk_drew ?_ | refine blk_alloc ?_ _)); exact BK965.out⟩, ⟨by (with_reducible repeat (first | refine blk_drewN ?_ _ | refine blk_drew ?_ | refine blk_alloc ?_ _)); exact BK981.out⟩, ⟨by (with_reducible repeat (first | refine blk_drewN ?_ _ | refine blk_drew ?_ | refine blk_alloc ?_ _)); exact BK987.out⟩, ⟨by (with_reducible repeat (first | refine blk_drewN ?_ _ | refine blk_drew ?_ | refine blk_alloc ?_ _)); exact BK997.out⟩, ⟨by repeat (first | (with_reducible first | exact HB.out | apply below_alloc | apply pw_below_drewN | apply below_drew1 | refine below_set ?_ GE965.out | refine below_set ?_ GE981.out | refine below_set ?_ GE987.out | refine below_set ?_ GE997.out) | exact HB.out)⟩⟩
      case rest =>
        as_aux_lemma =>
          clear HC16
          try clear c1
          try clear c2
          try clear p2
          try clear c3
          try clear c3b0
          try clear c3b1
          try clear c4
          try clear c5
          try clear c6
          try clear c6b0
          try clear c9
          try clear c20
          try clear c22
          try clear c23
          try clear c25
          try clear c27
          try clear c33
          try clear c34
          try clear c35
          try clear c42
          try clear c43
          try clear c44
          try clear c48
          try clear c49
          try clear c50
          try clear c51
          try clear c53
          try clear c54
          try clear c57
          try clear c58
          try clear c59
          try clear c61
          try clear c62
          try clear hcz18_0
          try clear hcz18_1
          try clear hcz18_2
          try clear hcz20_0
          try clear hcz20_1
          try clear hcz20_2
          try clear hcz28_0
          try clear hcz28_1
          try clear hcz28_2
          try clear hcz30_0
          try clear hcz30_1
          try clear hcz30_2
          try clear hcz35_0
          try clear hcz35_1
          try clear hcz35_2
          try clear hcz38_0
          try clear hcz38_1
          try clear hcz38_2
          try clear hcz45_0
          try clear hcz45_1
          try clear hcz45_2
          try clear hcz52_0
          try clear hcz52_1
          try clear hcz52_2
          try clear hcz55_0
          try clear hcz55_1
          try clear hcz55_2
          try clear hcz60_0
          try clear hcz60_1
          try clear hcz60_2
          try clear hcz63_0
          try clear hcz63_1
          try clear hcz63_2
          try clear hcz8_0
          try clear hcz8_1
          try clear hcz8_2
          try clear hfz18_0
          try clear hfz18_1
          try clear hfz18_2
          try clear hfz20_0
          try clear hfz20_1
          try clear hfz20_2
          try clear hfz28_0
          try clear hfz28_1
          try clear hfz28_2
          try clear hfz30_0
          try clear hfz30_1
          try clear hfz30_2
          try clear hfz35_0
          try clear hfz35_1
          try clear hfz35_2
          try clear hfz38_0
          try clear hfz38_1
          try clear hfz38_2
          try clear hfz45_0
          try clear hfz45_1
          try clear hfz45_2
          try clear hfz52_0
          try clear hfz52_1
          try clear hfz52_2
          try clear hfz55_0
          try clear hfz55_1
          try clear hfz55_2
          try clear hfz60_0
          try clear hfz60_1
          try clear hfz60_2
          try clear hfz63_0
          try clear hfz63_1
          try clear hfz63_2
          try clear hfz8_0
          try clear hfz8_1
          try clear hfz8_2
          obtain ⟨kq, x51_15, rfl, HA, HJ15, HO_9, HO_982002, HO_988002, HO_998002, BK965, BK981, BK987, BK997, HB⟩ := hcut
          cases kq with
          | zero => exact absurd HA.out (by simp [laws_FnExactSpreadMean.j0])
          | succ kj15 =>
            have H := HA.out
            clear HA
            simp only [laws_FnExactSpreadMean.j0] at H
            by_cases c65 : x51_15 = true
            · subst c65
              have H1 : (some false) = some r := by rw [if_pos rfl] at H; exact H
              exact absurd ((Option.some.inj H1).trans hrt_) (by decide)
            · replace c65 := Bool.eq_false_iff.mpr c65
              subst c65
              have H1 : ((laws_toField.f kj15 a0_0 a0_1 l0_2).bind fun bt999 => ((laws_eqField.f kj15 t982 t983 t984 bt999.1 bt999.2.1 bt999.2.2).bind fun t1004 => (if t1004 = true then ((laws_toIntS.f kj15 l1).bind fun t1005 => ((laws_eqIntS.f kj15 t988 t1005).bind fun t1008 => (if t1008 = true then ((laws_markField.f kj15 t982 t983 t984 1).bind fun bt1009 => ((laws_markIntS.f kj15 t988 bt1009.1).bind fun bt1011 => (if bt1011.1 < 0 then (laws_FnExactSpreadMean.j1 kj15 l1 t980 true a0_0 a0_1 l0_2 t975 t976 t977 t991 t992 t993) else ((laws_eqField.f kj15 t991 t992 t993 t975 t976 t977).bind fun t1013 => (if t1013 = true then (laws_FnExactSpreadMean.j1 kj15 l1 t980 (t996 != t980) a0_0 a0_1 l0_2 t975 t976 t977 t991 t992 t993) else (laws_FnExactSpreadMean.j1 kj15 l1 t980 true a0_0 a0_1 l0_2 t975 t976 t977 t991 t992 t993)))))) else (some false)))) else (some false)))) = some r := by rw [if_neg (show ¬ (false = true) by decide)] at H; exact H
              clear H
              have H := H1
              clear H1
              replace H := Option.bind_eq_some_iff.mp H
              obtain ⟨⟨t999, t1000, t1001⟩, A660, H⟩ := H
              replace H : ((laws_eqField.f kj15 t982 t983 t984 t999 t1000 t1001).bind fun t1004 => (if t1004 = true then ((laws_toIntS.f kj15 l1).bind fun t1005 => ((laws_eqIntS.f kj15 t988 t1005).bind fun t1008 => (if t1008 = true then ((laws_markField.f kj15 t982 t983 t984 1).bind fun bt1009 => ((laws_markIntS.f kj15 t988 bt1009.1).bind fun bt1011 => (if bt1011.1 < 0 then (laws_FnExactSpreadMean.j1 kj15 l1 t980 true a0_0 a0_1 l0_2 t975 t976 t977 t991 t992 t993) else ((laws_eqField.f kj15 t991 t992 t993 t975 t976 t977).bind fun t1013 => (if t1013 = true then (laws_FnExactSpreadMean.j1 kj15 l1 t980 (t996 != t980) a0_0 a0_1 l0_2 t975 t976 t977 t991 t992 t993) else (laws_FnExactSpreadMean.j1 kj15 l1 t980 true a0_0 a0_1 l0_2 t975 t976 t977 t991 t992 t993)))))) else (some false)))) else (some false))) = some r := H
              have A66 := Aside0.mk A660
              clear A660
              replace H := Option.bind_eq_some_iff.mp H
              obtain ⟨t1004, A670, H⟩ := H
              replace H : (if t1004 = true then ((laws_toIntS.f kj15 l1).bind fun t1005 => ((laws_eqIntS.f kj15 t988 t1005).bind fun t1008 => (if t1008 = true then ((laws_markField.f kj15 t982 t983 t984 1).bind fun bt1009 => ((laws_markIntS.f kj15 t988 bt1009.1).bind fun bt1011 => (if bt1011.1 < 0 then (laws_FnExactSpreadMean.j1 kj15 l1 t980 true a0_0 a0_1 l0_2 t975 t976 t977 t991 t992 t993) else ((laws_eqField.f kj15 t991 t992 t993 t975 t976 t977).bind fun t1013 => (if t1013 = true then (laws_FnExactSpreadMean.j1 kj15 l1 t980 (t996 != t980) a0_0 a0_1 l0_2 t975 t976 t977 t991 t992 t993) else (laws_FnExactSpreadMean.j1 kj15 l1 t980 true a0_0 a0_1 l0_2 t975 t976 t977 t991 t992 t993)))))) else (some false)))) else (some false)) = some r := H
              have A67 := Aside0.mk A670
              clear A670
              by_cases c68 : t1004 = true
              · subst c68
                have H1 : ((laws_toIntS.f kj15 l1).bind fun t1005 => ((laws_eqIntS.f kj15 t988 t1005).bind fun t1008 => (if t1008 = true then ((laws_markField.f kj15 t982 t983 t984 1).bind fun bt1009 => ((laws_markIntS.f kj15 t988 bt1009.1).bind fun bt1011 => (if bt1011.1 < 0 then (laws_FnExactSpreadMean.j1 kj15 l1 t980 true a0_0 a0_1 l0_2 t975 t976 t977 t991 t992 t993) else ((laws_eqField.f kj15 t991 t992 t993 t975 t976 t977).bind fun t1013 => (if t1013 = true then (laws_FnExactSpreadMean.j1 kj15 l1 t980 (t996 != t980) a0_0 a0_1 l0_2 t975 t976 t977 t991 t992 t993) else (laws_FnExactSpreadMean.j1 kj15 l1 t980 true a0_0 a0_1 l0_2 t975 t976 t977 t991 t992 t993)))))) else (some false)))) = some r := by rw [if_pos rfl] at H; exact H
                clear H
                have H := H1
                clear H1
                replace H := Option.bind_eq_some_iff.mp H
                obtain ⟨t1005, A690, H⟩ := H
                replace H : ((laws_eqIntS.f kj15 t988 t1005).bind fun t1008 => (if t1008 = true then ((laws_markField.f kj15 t982 t983 t984 1).bind fun bt1009 => ((laws_markIntS.f kj15 t988 bt1009.1).bind fun bt1011 => (if bt1011.1 < 0 then (laws_FnExactSpreadMean.j1 kj15 l1 t980 true a0_0 a0_1 l0_2 t975 t976 t977 t991 t992 t993) else ((laws_eqField.f kj15 t991 t992 t993 t975 t976 t977).bind fun t1013 => (if t1013 = true then (laws_FnExactSpreadMean.j1 kj15 l1 t980 (t996 != t980) a0_0 a0_1 l0_2 t975 t976 t977 t991 t992 t993) else (laws_FnExactSpreadMean.j1 kj15 l1 t980 true a0_0 a0_1 l0_2 t975 t976 t977 t991 t992 t993)))))) else (some false))) = some r := H
                have A69 := Aside0.mk A690
                clear A690
                replace H := Option.bind_eq_some_iff.mp H
                obtain ⟨t1008, A700, H⟩ := H
                replace H : (if t1008 = true then ((laws_markField.f kj15 t982 t983 t984 1).bind fun bt1009 => ((laws_markIntS.f kj15 t988 bt1009.1).bind fun bt1011 => (if bt1011.1 < 0 then (laws_FnExactSpreadMean.j1 kj15 l1 t980 true a0_0 a0_1 l0_2 t975 t976 t977 t991 t992 t993) else ((laws_eqField.f kj15 t991 t992 t993 t975 t976 t977).bind fun t1013 => (if t1013 = true then (laws_FnExactSpreadMean.j1 kj15 l1 t980 (t996 != t980) a0_0 a0_1 l0_2 t975 t976 t977 t991 t992 t993) else (laws_FnExactSpreadMean.j1 kj15 l1 t980 true a0_0 a0_1 l0_2 t975 t976 t977 t991 t992 t993)))))) else (some false)) = some r := H
                have A70 := Aside0.mk A700
                clear A700
                by_cases c71 : t1008 = true
                · subst c71
                  have H1 : ((laws_markField.f kj15 t982 t983 t984 1).bind fun bt1009 => ((laws_markIntS.f kj15 t988 bt1009.1).bind fun bt1011 => (if bt1011.1 < 0 then (laws_FnExactSpreadMean.j1 kj15 l1 t980 true a0_0 a0_1 l0_2 t975 t976 t977 t991 t992 t993) else ((laws_eqField.f kj15 t991 t992 t993 t975 t976 t977).bind fun t1013 => (if t1013 = true then (laws_FnExactSpreadMean.j1 kj15 l1 t980 (t996 != t980) a0_0 a0_1 l0_2 t975 t976 t977 t991 t992 t993) else (laws_FnExactSpreadMean.j1 kj15 l1 t980 true a0_0 a0_1 l0_2 t975 t976 t977 t991 t992 t993)))))) = some r := by rw [if_pos rfl] at H; exact H
                  clear H
                  have H := H1
                  clear H1
                  replace H := Option.bind_eq_some_iff.mp H
                  obtain ⟨⟨t1009, t1010⟩, A720, H⟩ := H
                  replace H : ((laws_markIntS.f kj15 t988 t1009).bind fun bt1011 => (if bt1011.1 < 0 then (laws_FnExactSpreadMean.j1 kj15 l1 t980 true a0_0 a0_1 l0_2 t975 t976 t977 t991 t992 t993) else ((laws_eqField.f kj15 t991 t992 t993 t975 t976 t977).bind fun t1013 => (if t1013 = true then (laws_FnExactSpreadMean.j1 kj15 l1 t980 (t996 != t980) a0_0 a0_1 l0_2 t975 t976 t977 t991 t992 t993) else (laws_FnExactSpreadMean.j1 kj15 l1 t980 true a0_0 a0_1 l0_2 t975 t976 t977 t991 t992 t993))))) = some r := H
                  have A72 := Aside0.mk A720
                  clear A720
                  replace H := Option.bind_eq_some_iff.mp H
                  obtain ⟨⟨t1011, t1012⟩, A730, H⟩ := H
                  replace H : (if t1011 < 0 then (laws_FnExactSpreadMean.j1 kj15 l1 t980 true a0_0 a0_1 l0_2 t975 t976 t977 t991 t992 t993) else ((laws_eqField.f kj15 t991 t992 t993 t975 t976 t977).bind fun t1013 => (if t1013 = true then (laws_FnExactSpreadMean.j1 kj15 l1 t980 (t996 != t980) a0_0 a0_1 l0_2 t975 t976 t977 t991 t992 t993) else (laws_FnExactSpreadMean.j1 kj15 l1 t980 true a0_0 a0_1 l0_2 t975 t976 t977 t991 t992 t993)))) = some r := H
                  have A73 := Aside0.mk A730
                  clear A730
                  have HC74 := Aside0.mk H
                  clear H
                  try go_wp2
                  have n0_ := Aside0.mk (Kd.R_drew HO_9.out)
                  have n1_ := Aside0.mk (Kd.R_drew HO_982002.out)
                  have n2_ := Aside0.mk (Kd.R_drew HO_988002.out)
                  have n3_ := Aside0.mk (Kd.R_drew HO_998002.out)
                  have n4_ := Aside0.mk (blk_drew BK965.out)
                  have n5_ := Aside0.mk (blk_drew BK981.out)
                  have n6_ := Aside0.mk (blk_drew BK987.out)
                  have n7_ := Aside0.mk (blk_drew BK997.out)
                  have n8_ := Aside0.mk (below_drew1 HB.out)
                  clear HO_9
                  clear HO_982002
                  clear HO_988002
                  clear HO_998002
                  clear BK965
                  clear BK981
                  clear BK987
                  clear BK997
                  clear HB
                  have HO_9 := n0_
                  have HO_982002 := n1_
                  have HO_988002 := n2_
                  have HO_998002 := n3_
                  have BK965 := n4_
                  have BK981 := n5_
                  have BK987 := n6_
                  have BK997 := n7_
                  have HB := n8_
                  clear n0_ n1_ n2_ n3_ n4_ n5_ n6_ n7_ n8_
                  refine start_ (n := 5) (S := fun w' => w'.cell? ⟨gb987, 0, none⟩ = some (.int .i64 t982) ∧ w'.cell? ⟨gb987, 1, none⟩ = some (.int .i64 t983) ∧ w'.cell? ⟨gb987, 2, none⟩ = some (.slice Ao36 t984.length co36) ∧ w'.cell? ⟨gb965, 0, none⟩ = some (.int .i64 a0_0) ∧ w'.cell? ⟨gb965, 1, none⟩ = some (.int .i64 a0_1) ∧ w'.cell? ⟨gb965, 2, none⟩ = some (.slice A0_2 l0_2.length c0_2)) (ds := []) #[false, false, false, false, false] (by kernel_rfl) rfl rfl ⟨(blk_cell BK987.out 0).trans rfl, (blk_cell BK987.out 1).trans rfl, (blk_cell BK987.out 2).trans rfl, (blk_cell BK965.out 0).trans rfl, (blk_cell BK965.out 1).trans rfl, (blk_cell BK965.out 2).trans rfl⟩ (fun hHeld => ?_)
                  generalize wc.drew = w75 at HO_9 HO_982002 HO_988002 HO_998002 BK965 BK981 BK987 BK997 HB hHeld ⊢
                  refine take_ (i := 0) (N := some 52) (v := ?_) (a' := ?_) #[true, false, false, false, false] rfl rfl (by kernel_rfl) (fun _ _ _ h => h) (Or.inl ⟨by rfl, ?_⟩) hHeld ?_ ?_
                  rotate_left
                  · rintro w' ⟨s0, s1, s2, s3, s4, s5⟩
                    go_simp
                    with_reducible rfl
                  rotate_left
                  · simp only [Act.put, List.setIfInBounds_toArray, List.set_cons_zero, List.set_cons_succ, i64_w, i32_w]
                    rfl
                  refine take_ (i := 1) (N := some 53) (v := ?_) (a' := ?_) #[true, true, false, false, false] rfl rfl (by kernel_rfl) (fun _ _ _ h => h) (Or.inl ⟨by rfl, ?_⟩) hHeld ?_ ?_
                  rotate_left
                  · rintro w' ⟨s0, s1, s2, s3, s4, s5⟩
                    go_simp
                    with_reducible rfl
                  rotate_left
                  · simp only [Act.put, List.setIfInBounds_toArray, List.set_cons_zero, List.set_cons_succ, i64_w, i32_w]
                    rfl
                  refine one_ (i := 2) (N := some 54) #[true, true, true, false, false] rfl rfl (by kernel_rfl) (by decide) (fun K hK => ?_)
                  refine goes_ Try.func22 (by kernel_rfl) rfl #[.agg #[.int .i64 a0_0, .int .i64 a0_1, .slice A0_2 l0_2.length c0_2]] (by rfl) rfl rfl (by (try simp only [List.map_toArray, List.map_cons, List.map_nil]); first | done | rfl | (simp only [List.length_drop, List.length_take]; rfl)) ?_
                  with_reducible refine (laws_toField.calls kj15 a0_0 a0_1 _ _ l0_2 t999 t1000 t1001 _ ?side1 ?side2 A66.out).mono ?_
                  (case side1 => repeat (first | exact (Kd.C_below HR0_2.out HB.out) | (with_reducible refine Kd.C_alloc ?_ _) | (with_reducible refine Kd.C_drewN ?_ _) | (with_reducible refine Kd.C_drew ?_)))
                  (case side2 => exact HC0_2.out)
                  rintro e w76 ⟨v1002, rfl, ho0, hb⟩
                  refine ⟨_, rfl, ?_⟩
                  have n0_ := Aside0.mk (Kd.R_elder' (by (with_reducible repeat (first | apply Kd.R_alloc | apply Kd.R_drewN | apply Kd.R_drew)); exact HO_9.out) (Kd.R_base ho0) hb)
                  have n1_ := Aside0.mk (Kd.R_elder' (by (with_reducible repeat (first | apply Kd.R_alloc | apply Kd.R_drewN | apply Kd.R_drew)); exact HO_982002.out) (Kd.R_base ho0) hb)
                  have n2_ := Aside0.mk (Kd.R_elder' (by (with_reducible repeat (first | apply Kd.R_alloc | apply Kd.R_drewN | apply Kd.R_drew)); exact HO_988002.out) (Kd.R_base ho0) hb)
                  have n3_ := Aside0.mk (Kd.R_elder' (by (with_reducible repeat (first | apply Kd.R_alloc | apply Kd.R_drewN | apply Kd.R_drew)); exact HO_998002.out) (Kd.R_base ho0) hb)
                  have n4_ := Aside0.mk (Kd.R_lower (Kd.R_new' (Kd.R_new' (Kd.R_new' (Kd.R_new' ho0 (Kd.R_lt (by (with_reducible repeat (first | apply Kd.R_alloc | apply Kd.R_drewN | apply Kd.R_drew)); exact HO_9.out))) (Kd.R_lt (by (with_reducible repeat (first | apply Kd.R_alloc | apply Kd.R_drewN | apply Kd.R_drew)); exact HO_982002.out))) (Kd.R_lt (by (with_reducible repeat (first | apply Kd.R_alloc | apply Kd.R_drewN | apply Kd.R_drew)); exact HO_988002.out))) (Kd.R_lt (by (with_reducible repeat (first | apply Kd.R_alloc | apply Kd.R_drewN | apply Kd.R_drew)); exact HO_998002.out))) (below_size (by repeat (first | (with_reducible first | exact HB.out | apply below_alloc | apply pw_below_drewN | apply below_drew1 | refine below_set ?_ GE965.out | refine below_set ?_ GE981.out | refine below_set ?_ GE987.out | refine below_set ?_ GE997.out) | exact HB.out))))
                  have n5_ := Aside0.mk (blk_below (g := gb965) (o := .cells #[.int .i64 a0_0, .int .i64 a0_1, .slice A0_2 l0_2.length c0_2] 36 (0, 0)) BK965.out hb)
                  have n6_ := Aside0.mk (blk_below (g := gb981) (o := .cells #[.int .i64 t975, .int .i64 t976, .slice Ao29 t977.length co29] 26 (0, 0)) BK981.out hb)
                  have n7_ := Aside0.mk (blk_below (g := gb987) (o := .cells #[.int .i64 t982, .int .i64 t983, .slice Ao36 t984.length co36] 26 (0, 0)) BK987.out hb)
                  have n8_ := Aside0.mk (blk_below (g := gb997) (o := .cells #[.int .i64 t991, .int .i64 t992, .slice Ao46 t993.length co46] 26 (0, 0)) BK997.out hb)
                  have n9_ := Aside0.mk (below_step (by repeat (first | (with_reducible first | exact HB.out | apply below_alloc | apply pw_below_drewN | apply below_drew1 | refine below_set ?_ GE965.out | refine below_set ?_ GE981.out | refine below_set ?_ GE987.out | refine below_set ?_ GE997.out) | exact HB.out)) hb)
                  clear HO_9
                  clear HO_982002
                  clear HO_988002
                  clear HO_998002
                  clear BK965
                  clear BK981
                  clear BK987
                  clear BK997
                  clear HB
                  have HO_9 := n0_
                  have HO_982002 := n1_
                  have HO_988002 := n2_
                  have HO_998002 := n3_
                  have HO1003 := n4_
                  have BK965 := n5_
                  have BK981 := n6_
                  have BK987 := n7_
                  have BK997 := n8_
                  have HB := n9_
                  clear n0_ n1_ n2_ n3_ n4_ n5_ n6_ n7_ n8_ n9_
                  (try clear hb)
                  (try clear hb2)
                  (try clear hk)
                  (try clear hi)
                  (try clear ho0)
                  obtain ⟨Ao77, co77, eo77⟩ := Kd.R_slice HO1003.out
                  (first | subst eo77 | (injection eo77 with f1_ f2_ f3_; have f4_ := f1_.symm; have f5_ := f3_.symm; clear f1_ f2_ f3_; subst f4_; subst f5_))
                  refine hK.out _ _ ⟨(blk_cell BK987.out 0).trans rfl, (blk_cell BK987.out 1).trans rfl, (blk_cell BK987.out 2).trans rfl, (blk_cell BK965.out 0).trans rfl, (blk_cell BK965.out 1).trans rfl, (blk_cell BK965.out 2).trans rfl⟩ (fun hHeld => ?_)
                  clear hK K
                  refine norm_ (a' := ?_) ?_ ?_
                  rotate_left
                  · show Act.put _ (some 54) _ = _
                    simp only [Act.put, List.setIfInBounds_toArray, List.set_cons_zero, List.set_cons_succ, i64_w, i32_w]
                    rfl
                  refine one_ (i := 3) (N := some 55) #[true, true, true, true, false] rfl rfl (by kernel_rfl) (by decide) (fun K hK => ?_)
                  refine goes_ Try.func25 (by kernel_rfl) rfl #[.agg #[.int .i64 t982, .int .i64 t983, .slice Ao36 t984.length co36], .agg #[.int .i64 t999, .int .i64 t1000, .slice Ao77 t1001.length co77]] (by rfl) rfl rfl (by (try simp only [List.map_toArray, List.map_cons, List.map_nil]); first | done | rfl | (simp only [List.length_drop, List.length_take]; rfl)) ?_
                  with_reducible refine (laws_eqField.calls kj15 t982 t983 _ _ t984 t999 t1000 _ _ t1001 true _ ?side1 ?side2 ?side3 ?side4 A67.out).mono ?_
                  (case side1 => repeat (first | exact (Kd.R_reads' HO_988002.out).2.2 | (with_reducible refine Kd.C_alloc ?_ _) | (with_reducible refine Kd.C_drewN ?_ _) | (with_reducible refine Kd.C_drew ?_)))
                  (case side2 => exact (Kd.R_reads' HO_988002.out).2.1)
                  (case side3 => repeat (first | exact (Kd.R_reads' HO1003.out).2.2 | (with_reducible refine Kd.C_alloc ?_ _) | (with_reducible refine Kd.C_drewN ?_ _) | (with_reducible refine Kd.C_drew ?_)))
                  (case side4 => exact (Kd.R_reads' HO1003.out).2.1)
                  rintro e w78 ⟨rfl, hb⟩
                  refine ⟨_, rfl, ?_⟩
                  have n0_ := Aside0.mk (Kd.R_below (by (with_reducible repeat (first | apply Kd.R_alloc | apply Kd.R_drewN | apply Kd.R_drew)); exact HO_9.out) hb)
                  have n1_ := Aside0.mk (Kd.R_below (by (with_reducible repeat (first | apply Kd.R_alloc | apply Kd.R_drewN | apply Kd.R_drew)); exact HO_982002.out) hb)
                  have n2_ := Aside0.mk (Kd.R_below (by (with_reducible repeat (first | apply Kd.R_alloc | apply Kd.R_drewN | apply Kd.R_drew)); exact HO_988002.out) hb)
                  have n3_ := Aside0.mk (Kd.R_below (by (with_reducible repeat (first | apply Kd.R_alloc | apply Kd.R_drewN | apply Kd.R_drew)); exact HO_998002.out) hb)
                  have n4_ := Aside0.mk (Kd.R_below (by (with_reducible repeat (first | apply Kd.R_alloc | apply Kd.R_drewN | apply Kd.R_drew)); exact HO1003.out) hb)
                  have n5_ := Aside0.mk (blk_below (g := gb965) (o := .cells #[.int .i64 a0_0, .int .i64 a0_1, .slice A0_2 l0_2.length c0_2] 36 (0, 0)) BK965.out hb)
                  have n6_ := Aside0.mk (blk_below (g := gb981) (o := .cells #[.int .i64 t975, .int .i64 t976, .slice Ao29 t977.length co29] 26 (0, 0)) BK981.out hb)
                  have n7_ := Aside0.mk (blk_below (g := gb987) (o := .cells #[.int .i64 t982, .int .i64 t983, .slice Ao36 t984.length co36] 26 (0, 0)) BK987.out hb)
                  have n8_ := Aside0.mk (blk_below (g := gb997) (o := .cells #[.int .i64 t991, .int .i64 t992, .slice Ao46 t993.length co46] 26 (0, 0)) BK997.out hb)
                  have n9_ := Aside0.mk (below_step (by repeat (first | (with_reducible first | exact HB.out | apply below_alloc | apply pw_below_drewN | apply below_drew1 | refine below_set ?_ GE965.out | refine below_set ?_ GE981.out | refine below_set ?_ GE987.out | refine below_set ?_ GE997.out) | exact HB.out)) hb)
                  clear HO_9
                  clear HO_982002
                  clear HO_988002
                  clear HO_998002
                  clear HO1003
                  clear BK965
                  clear BK981
                  clear BK987
                  clear BK997
                  clear HB
                  have HO_9 := n0_
                  have HO_982002 := n1_
                  have HO_988002 := n2_
                  have HO_998002 := n3_
                  have HO1003 := n4_
                  have BK965 := n5_
                  have BK981 := n6_
                  have BK987 := n7_
                  have BK997 := n8_
                  have HB := n9_
                  clear n0_ n1_ n2_ n3_ n4_ n5_ n6_ n7_ n8_ n9_
                  (try clear hb)
                  (try clear hb2)
                  (try clear hk)
                  (try clear hi)
                  refine hK.out _ _ ⟨(blk_cell BK987.out 0).trans rfl, (blk_cell BK987.out 1).trans rfl, (blk_cell BK987.out 2).trans rfl, (blk_cell BK965.out 0).trans rfl, (blk_cell BK965.out 1).trans rfl, (blk_cell BK965.out 2).trans rfl⟩ (fun hHeld => ?_)
                  clear hK K
                  refine norm_ (a' := ?_) ?_ ?_
                  rotate_left
                  · show Act.put _ (some 55) _ = _
                    simp only [Act.put, List.setIfInBounds_toArray, List.set_cons_zero, List.set_cons_succ, i64_w, i32_w]
                    rfl
                  refine pure_ (i := 4) (N := some 56) (v := ?_) (a' := ?_) #[true, true, true, true, true] rfl rfl (by kernel_rfl) (fun _ _ _ h => h) (Or.inl ⟨by rfl, ?_⟩) ?_ ?_
                  rotate_left
                  · intro w'
                    go_simp
                    with_reducible rfl
                  rotate_left
                  · simp only [Act.put, List.setIfInBounds_toArray, List.set_cons_zero, List.set_cons_succ, i64_w, i32_w]
                    rfl
                  refine done_ (by kernel_rfl) ?_
                  go_upto_region 20 with (first | ((with_reducible refine gate_callee (f := 23) rfl ?_); refine goesL_ (some 59) rfl rfl Try.func23 (by kernel_rfl) rfl #[.slice A1 l1.length c1] rfl (by (try simp only [List.map_toArray, List.map_cons, List.map_nil]); first | done | rfl | (simp only [List.length_drop, List.length_take]; rfl)) ?_; (with_reducible refine (laws_toIntS.calls kj15 _ _ l1 t1005 _ ?side1 ?side2 A69.out).mono ?_); (case side1 => repeat (first | exact (Kd.C_below HR1.out HB.out) | (with_reducible refine Kd.C_alloc ?_ _) | (with_reducible refine Kd.C_drewN ?_ _) | (with_reducible refine Kd.C_drew ?_))); (case side2 => exact HC1.out); rintro e w79 ⟨v1006, rfl, ho0, hb⟩; refine ⟨_, rfl, ?_⟩; have n0_ := Aside0.mk (Kd.R_elder' (by (with_reducible repeat (first | apply Kd.R_alloc | apply Kd.R_drewN | apply Kd.R_drew)); exact HO_9.out) (Kd.R_base ho0) hb); have n1_ := Aside0.mk (Kd.R_elder' (by (with_reducible repeat (first | apply Kd.R_alloc | apply Kd.R_drewN | apply Kd.R_drew)); exact HO_982002.out) (Kd.R_base ho0) hb); have n2_ := Aside0.mk (Kd.R_elder' (by (with_reducible repeat (first | apply Kd.R_alloc | apply Kd.R_drewN | apply Kd.R_drew)); exact HO_988002.out) (Kd.R_base ho0) hb); have n3_ := Aside0.mk (Kd.R_elder' (by (with_reducible repeat (first | apply Kd.R_alloc | apply Kd.R_drewN | apply Kd.R_drew)); exact HO_998002.out) (Kd.R_base ho0) hb); have n4_ := Aside0.mk (Kd.R_elder' (by (with_reducible repeat (first | apply Kd.R_alloc | apply Kd.R_drewN | apply Kd.R_drew)); exact HO1003.out) (Kd.R_base ho0) hb); have n5_ := Aside0.mk (Kd.R_lower (Kd.R_new' (Kd.R_new' (Kd.R_new' (Kd.R_new' (Kd.R_new' ho0 (Kd.R_lt (by (with_reducible repeat (first | apply Kd.R_alloc | apply Kd.R_drewN | apply Kd.R_drew)); exact HO_9.out))) (Kd.R_lt (by (with_reducible repeat (first | apply Kd.R_alloc | apply Kd.R_drewN | apply Kd.R_drew)); exact HO_982002.out))) (Kd.R_lt (by (with_reducible repeat (first | apply Kd.R_alloc | apply Kd.R_drewN | apply Kd.R_drew)); exact HO_988002.out))) (Kd.R_lt (by (with_reducible repeat (first | apply Kd.R_alloc | apply Kd.R_drewN | apply Kd.R_drew)); exact HO_998002.out))) (Kd.R_lt (by (with_reducible repeat (first | apply Kd.R_alloc | apply Kd.R_drewN | apply Kd.R_drew)); exact HO1003.out))) (below_size (by repeat (first | (with_reducible first | exact HB.out | apply below_alloc | apply pw_below_drewN | apply below_drew1 | refine below_set ?_ GE965.out | refine below_set ?_ GE981.out | refine below_set ?_ GE987.out | refine below_set ?_ GE997.out) | exact HB.out)))); have n6_ := Aside0.mk (blk_below (g := gb965) (o := .cells #[.int .i64 a0_0, .int .i64 a0_1, .slice A0_2 l0_2.length c0_2] 36 (0, 0)) BK965.out hb); have n7_ := Aside0.mk (blk_below (g := gb981) (o := .cells #[.int .i64 t975, .int .i64 t976, .slice Ao29 t977.length co29] 26 (0, 0)) BK981.out hb); have n8_ := Aside0.mk (blk_below (g := gb987) (o := .cells #[.int .i64 t982, .int .i64 t983, .slice Ao36 t984.length co36] 26 (0, 0)) BK987.out hb); have n9_ := Aside0.mk (blk_below (g := gb997) (o := .cells #[.int .i64 t991, .int .i64 t992, .slice Ao46 t993.length co46] 26 (0, 0)) BK997.out hb); have n10_ := Aside0.mk (below_step (by repeat (first | (with_reducible first | exact HB.out | apply below_alloc | apply pw_below_drewN | apply below_drew1 | refine below_set ?_ GE965.out | refine below_set ?_ GE981.out | refine below_set ?_ GE987.out | refine below_set ?_ GE997.out) | exact HB.out)) hb); clear HO_9; clear HO_982002; clear HO_988002; clear HO_998002; clear HO1003; clear BK965; clear BK981; clear BK987; clear BK997; clear HB; have HO_9 := n0_; have HO_982002 := n1_; have HO_988002 := n2_; have HO_998002 := n3_; have HO1003 := n4_; have HO1007 := n5_; have BK965 := n6_; have BK981 := n7_; have BK987 := n8_; have BK997 := n9_; have HB := n10_; clear n0_ n1_ n2_ n3_ n4_ n5_ n6_ n7_ n8_ n9_ n10_; (try clear hb); (try clear hb2); (try clear hk); (try clear hi); (try clear ho0); obtain ⟨Ao80, co80, eo80⟩ := Kd.R_slice HO1007.out; subst eo80) | ((with_reducible refine gate_callee (f := 26) rfl ?_); refine goesL_ (some 60) rfl rfl Try.func26 (by kernel_rfl) rfl #[.slice Ao39 t988.length co39, .slice Ao80 t1005.length co80] rfl (by (try simp only [List.map_toArray, List.map_cons, List.map_nil]); first | done | rfl | (simp only [List.length_drop, List.length_take]; rfl)) ?_; (with_reducible refine (laws_eqIntS.calls kj15 _ _ t988 _ _ t1005 true _ ?side1 ?side2 ?side3 ?side4 A70.out).mono ?_); (case side1 => repeat (first | exact (Kd.R_reads' HO_9.out).2.2 | (with_reducible refine Kd.C_alloc ?_ _) | (with_reducible refine Kd.C_drewN ?_ _) | (with_reducible refine Kd.C_drew ?_))); (case side2 => exact (Kd.R_reads' HO_9.out).2.1); (case side3 => repeat (first | exact (Kd.R_reads' HO1007.out).2.2 | (with_reducible refine Kd.C_alloc ?_ _) | (with_reducible refine Kd.C_drewN ?_ _) | (with_reducible refine Kd.C_drew ?_))); (case side4 => exact (Kd.R_reads' HO1007.out).2.1); rintro e w' ⟨rfl, ⟨nd, rfl⟩⟩; refine ⟨_, rfl, ?_⟩; have hnb81 := NB987_965.out; have hnc81 := NB965_987.out; have hnb82 := NB987_981.out; have hnc82 := NB981_987.out; have hnb83 := NB987_997.out; have hnc83 := NB997_987.out; have hcz84_0 : w79.cell? ⟨gb987, 0, none⟩ = some (.int .i64 t982) := (blk_cell BK987.out 0).trans rfl; have hcz84_1 : w79.cell? ⟨gb987, 1, none⟩ = some (.int .i64 t983) := (blk_cell BK987.out 1).trans rfl; have hcz84_2 : w79.cell? ⟨gb987, 2, none⟩ = some (.slice Ao36 t984.length co36) := (blk_cell BK987.out 2).trans rfl; have hfz84_0 := blk_frozen BK987.out 0; have hfz84_1 := blk_frozen BK987.out 1; have hfz84_2 := blk_frozen BK987.out 2) | ((with_reducible refine gate_callee (f := 27) rfl ?_); refine goesL_ (some 64) rfl rfl Try.func27 (by kernel_rfl) rfl #[.agg #[.int .i64 t982, .int .i64 t983, .slice Ao36 t984.length co36], .int .i64 1] rfl (by (try simp only [List.map_toArray, List.map_cons, List.map_nil]); first | done | rfl | (simp only [List.length_drop, List.length_take]; rfl)) ?_; (with_reducible refine (laws_markField.calls kj15 t982 t983 (fun k_ => some k_ = (.slice Ao36 t984.length co36 : Value).ownBlock) (.slice Ao36 t984.length co36) t984 1 t1009 t1010 w _ ?side1 ?side2 A72.out).mono ?_); (case side1 => repeat (first | (with_reducible first | exact HB.out | apply below_alloc | apply pw_below_drewN | apply below_drew1 | refine below_set ?_ GE965.out | refine below_set ?_ GE981.out | refine below_set ?_ GE987.out | refine below_set ?_ GE997.out) | exact HB.out)); (case side2 => exact Kd.R_tight rfl HO_988002.out); rintro e w85 ⟨rfl, hy0, hb, hkp⟩; refine ⟨_, rfl, ?_⟩; have n0_ := Aside0.mk (Kd.R_mono (ok' := fun k_ => some k_ ≠ (.slice Ao29 t977.length co29 : Value).ownBlock ∧ some k_ ≠ (.slice Ao36 t984.length co36 : Value).ownBlock ∧ some k_ ≠ (.slice Ao46 t993.length co46 : Value).ownBlock ∧ some k_ ≠ (.slice Ao77 t1001.length co77 : Value).ownBlock ∧ some k_ ≠ (.slice Ao80 t1005.length co80 : Value).ownBlock) (Kd.R_keptB (HO_9.out) hkp (fun k_ hk_ hs_ => (hk_.1.1.2.1) hs_)) (fun k_ hk_ => ⟨hk_.1.1.1.1, hk_.1.1.1.2.1, hk_.1.1.1.2.2, hk_.1.1.2, hk_.1.2⟩)); have n1_ := Aside0.mk (Kd.R_mono (ok' := fun k_ => some k_ ≠ (.slice Ao39 t988.length co39 : Value).ownBlock ∧ some k_ ≠ (.slice Ao36 t984.length co36 : Value).ownBlock ∧ some k_ ≠ (.slice Ao46 t993.length co46 : Value).ownBlock ∧ some k_ ≠ (.slice Ao77 t1001.length co77 : Value).ownBlock ∧ some k_ ≠ (.slice Ao80 t1005.length co80 : Value).ownBlock) (Kd.R_keptB (HO_982002.out) hkp (fun k_ hk_ hs_ => (hk_.1.1.2.1) hs_)) (fun k_ hk_ => ⟨hk_.1.1.1.1, hk_.1.1.1.2.1, hk_.1.1.1.2.2, hk_.1.1.2, hk_.1.2⟩)); have n2_ := Aside0.mk (Kd.R_reok rfl hy0 (fun k_ e_ => HO_988002.out.1 k_ e_)); have n3_ := Aside0.mk (Kd.R_mono (ok' := fun k_ => some k_ ≠ (.slice Ao39 t988.length co39 : Value).ownBlock ∧ some k_ ≠ (.slice Ao29 t977.length co29 : Value).ownBlock ∧ some k_ ≠ (.slice Ao36 t984.length co36 : Value).ownBlock ∧ some k_ ≠ (.slice Ao77 t1001.length co77 : Value).ownBlock ∧ some k_ ≠ (.slice Ao80 t1005.length co80 : Value).ownBlock) (Kd.R_keptB (HO_998002.out) hkp (fun k_ hk_ hs_ => (hk_.1.1.2.2) hs_)) (fun k_ hk_ => ⟨hk_.1.1.1.1, hk_.1.1.1.2.1, hk_.1.1.1.2.2, hk_.1.1.2, hk_.1.2⟩)); have n4_ := Aside0.mk (blk_kept BK965.out hkp (fun hs_ => (fun e_ => (Kd.R_ne HO_988002.out BK965.out (by decide)) e_) hs_)); have n5_ := Aside0.mk (blk_kept BK981.out hkp (fun hs_ => (fun e_ => (Kd.R_ne HO_988002.out BK981.out (by decide)) e_) hs_)); have n6_ := Aside0.mk (blk_kept BK987.out hkp (fun hs_ => (fun e_ => (Kd.R_ne HO_988002.out BK987.out (by decide)) e_) hs_)); have n7_ := Aside0.mk (blk_kept BK997.out hkp (fun hs_ => (fun e_ => (Kd.R_ne HO_988002.out BK997.out (by decide)) e_) hs_)); have n8_ := Aside0.mk (Kd.R_mono (ok' := fun k_ => some k_ ≠ (.slice Ao39 t988.length co39 : Value).ownBlock ∧ some k_ ≠ (.slice Ao29 t977.length co29 : Value).ownBlock ∧ some k_ ≠ (.slice Ao36 t984.length co36 : Value).ownBlock ∧ some k_ ≠ (.slice Ao46 t993.length co46 : Value).ownBlock ∧ some k_ ≠ (.slice Ao80 t1005.length co80 : Value).ownBlock) (Kd.R_keptB (HO1003.out) hkp (fun k_ hk_ hs_ => (hk_.1.1.2) hs_)) (fun k_ hk_ => ⟨hk_.1.1.1.1.1.2, hk_.1.1.1.1.2, hk_.1.1.1.2, hk_.1.1.2, hk_.1.2⟩)); have n9_ := Aside0.mk (Kd.R_mono (ok' := fun k_ => some k_ ≠ (.slice Ao39 t988.length co39 : Value).ownBlock ∧ some k_ ≠ (.slice Ao29 t977.length co29 : Value).ownBlock ∧ some k_ ≠ (.slice Ao36 t984.length co36 : Value).ownBlock ∧ some k_ ≠ (.slice Ao46 t993.length co46 : Value).ownBlock ∧ some k_ ≠ (.slice Ao77 t1001.length co77 : Value).ownBlock) (Kd.R_keptB (HO1007.out) hkp (fun k_ hk_ hs_ => (hk_.1.1.2) hs_)) (fun k_ hk_ => ⟨hk_.1.1.1.1.1.2, hk_.1.1.1.1.2, hk_.1.1.1.2, hk_.1.1.2, hk_.1.2⟩)); have n10_ := Aside0.mk (hb); clear HO_9; clear HO_982002; clear HO_988002; clear HO_998002; clear BK965; clear BK981; clear BK987; clear BK997; clear HO1003; clear HO1007; clear HB; have HO_9 := n0_; have HO_982002 := n1_; have HO_988002 := n2_; have HO_998002 := n3_; have BK965 := n4_; have BK981 := n5_; have BK987 := n6_; have BK997 := n7_; have HO1003 := n8_; have HO1007 := n9_; have HB := n10_; clear n0_ n1_ n2_ n3_ n4_ n5_ n6_ n7_ n8_ n9_ n10_; (try clear hb); (try clear hkp); (try clear hy0)) | ((with_reducible refine gate_callee (f := 28) rfl ?_); refine goesL_ (some 67) rfl rfl Try.func28 (by kernel_rfl) rfl #[.slice Ao39 t988.length co39, .int .i64 t1009] rfl (by (try simp only [List.map_toArray, List.map_cons, List.map_nil]); first | done | rfl | (simp only [List.length_drop, List.length_take]; rfl)) ?_; (with_reducible refine (laws_markIntS.calls kj15 (fun k_ => some k_ = (.slice Ao39 t988.length co39 : Value).ownBlock) (.slice Ao39 t988.length co39) t988 t1009 t1011 t1012 w _ ?side1 ?side2 A73.out).mono ?_); (case side1 => repeat (first | (with_reducible first | exact HB.out | apply below_alloc | apply pw_below_drewN | apply below_drew1 | refine below_set ?_ GE965.out | refine below_set ?_ GE981.out | refine below_set ?_ GE987.out | refine below_set ?_ GE997.out) | exact HB.out)); (case side2 => exact Kd.R_tight rfl HO_9.out); rintro e w86 ⟨rfl, hy0, hb, hkp⟩; refine ⟨_, rfl, ?_⟩; have n0_ := Aside0.mk (Kd.R_reok rfl hy0 (fun k_ e_ => HO_9.out.1 k_ e_)); have n1_ := Aside0.mk (Kd.R_mono (ok' := fun k_ => some k_ ≠ (.slice Ao39 t988.length co39 : Value).ownBlock ∧ some k_ ≠ (.slice Ao36 t984.length co36 : Value).ownBlock ∧ some k_ ≠ (.slice Ao46 t993.length co46 : Value).ownBlock ∧ some k_ ≠ (.slice Ao77 t1001.length co77 : Value).ownBlock ∧ some k_ ≠ (.slice Ao80 t1005.length co80 : Value).ownBlock) (Kd.R_keptB (HO_982002.out) hkp (fun k_ hk_ hs_ => (hk_.1) hs_)) (fun k_ hk_ => ⟨hk_.1.1, hk_.1.2.1, hk_.1.2.2.1, hk_.1.2.2.2.1, hk_.1.2.2.2.2⟩)); have n2_ := Aside0.mk (Kd.R_mono (ok' := fun k_ => some k_ ≠ (.slice Ao39 t988.length co39 : Value).ownBlock ∧ some k_ ≠ (.slice Ao29 t977.length co29 : Value).ownBlock ∧ some k_ ≠ (.slice Ao46 t993.length co46 : Value).ownBlock ∧ some k_ ≠ (.slice Ao77 t1001.length co77 : Value).ownBlock ∧ some k_ ≠ (.slice Ao80 t1005.length co80 : Value).ownBlock) (Kd.R_keptB (HO_988002.out) hkp (fun k_ hk_ hs_ => (hk_.1.1.1) hs_)) (fun k_ hk_ => ⟨hk_.1.1.1.1, hk_.1.1.1.2.1, hk_.1.1.1.2.2, hk_.1.1.2, hk_.1.2⟩)); have n3_ := Aside0.mk (Kd.R_mono (ok' := fun k_ => some k_ ≠ (.slice Ao39 t988.length co39 : Value).ownBlock ∧ some k_ ≠ (.slice Ao29 t977.length co29 : Value).ownBlock ∧ some k_ ≠ (.slice Ao36 t984.length co36 : Value).ownBlock ∧ some k_ ≠ (.slice Ao77 t1001.length co77 : Value).ownBlock ∧ some k_ ≠ (.slice Ao80 t1005.length co80 : Value).ownBlock) (Kd.R_keptB (HO_998002.out) hkp (fun k_ hk_ hs_ => (hk_.1) hs_)) (fun k_ hk_ => ⟨hk_.1.1, hk_.1.2.1, hk_.1.2.2.1, hk_.1.2.2.2.1, hk_.1.2.2.2.2⟩)); have n4_ := Aside0.mk (blk_kept BK965.out hkp (fun hs_ => (fun e_ => (Kd.R_ne HO_9.out BK965.out (by decide)) e_) hs_)); have n5_ := Aside0.mk (blk_kept BK981.out hkp (fun hs_ => (fun e_ => (Kd.R_ne HO_9.out BK981.out (by decide)) e_) hs_)); have n6_ := Aside0.mk (blk_kept BK987.out hkp (fun hs_ => (fun e_ => (Kd.R_ne HO_9.out BK987.out (by decide)) e_) hs_)); have n7_ := Aside0.mk (blk_kept BK997.out hkp (fun hs_ => (fun e_ => (Kd.R_ne HO_9.out BK997.out (by decide)) e_) hs_)); have n8_ := Aside0.mk (Kd.R_mono (ok' := fun k_ => some k_ ≠ (.slice Ao39 t988.length co39 : Value).ownBlock ∧ some k_ ≠ (.slice Ao29 t977.length co29 : Value).ownBlock ∧ some k_ ≠ (.slice Ao36 t984.length co36 : Value).ownBlock ∧ some k_ ≠ (.slice Ao46 t993.length co46 : Value).ownBlock ∧ some k_ ≠ (.slice Ao80 t1005.length co80 : Value).ownBlock) (Kd.R_keptB (HO1003.out) hkp (fun k_ hk_ hs_ => (hk_.1) hs_)) (fun k_ hk_ => ⟨hk_.1.1, hk_.1.2.1, hk_.1.2.2.1, hk_.1.2.2.2.1, hk_.1.2.2.2.2⟩)); have n9_ := Aside0.mk (Kd.R_mono (ok' := fun k_ => some k_ ≠ (.slice Ao39 t988.length co39 : Value).ownBlock ∧ some k_ ≠ (.slice Ao29 t977.length co29 : Value).ownBlock ∧ some k_ ≠ (.slice Ao36 t984.length co36 : Value).ownBlock ∧ some k_ ≠ (.slice Ao46 t993.length co46 : Value).ownBlock ∧ some k_ ≠ (.slice Ao77 t1001.length co77 : Value).ownBlock) (Kd.R_keptB (HO1007.out) hkp (fun k_ hk_ hs_ => (hk_.1) hs_)) (fun k_ hk_ => ⟨hk_.1.1, hk_.1.2.1, hk_.1.2.2.1, hk_.1.2.2.2.1, hk_.1.2.2.2.2⟩)); have n10_ := Aside0.mk (hb); clear HO_9; clear HO_982002; clear HO_988002; clear HO_998002; clear BK965; clear BK981; clear BK987; clear BK997; clear HO1003; clear HO1007; clear HB; have HO_9 := n0_; have HO_982002 := n1_; have HO_988002 := n2_; have HO_998002 := n3_; have BK965 := n4_; have BK981 := n5_; have BK987 := n6_; have BK997 := n7_; have HO1003 := n8_; have HO1007 := n9_; have HB := n10_; clear n0_ n1_ n2_ n3_ n4_ n5_ n6_ n7_ n8_ n9_ n10_; (try clear hb); (try clear hkp); (try clear hy0)))
                  (try simp only [Act.put, List.setIfInBounds_toArray, List.set_cons_zero, List.set_cons_succ])
                  go_cut [80] (fun v80 wc => ∃ (kq : Nat) (x80_73 : Bool), v80 = .bool x80_73 ∧ Aside0 (laws_FnExactSpreadMean.j1 kq l1 t980 x80_73 a0_0 a0_1 l0_2 t975 t976 t977 t991 t992 t993 = some r) ∧ Aside0 (kq ≤ kj15) ∧ Aside0 (Kd.R (Kd.int .i64) 3 wc w.heap.size (fun k_ => some k_ ≠ ((.slice Ao36 t984.length co36) : Value).ownBlock ∧ some k_ ≠ ((.slice Ao46 t993.length co46) : Value).ownBlock) (.slice Ao29 t977.length co29) t977) ∧ Aside0 (Kd.R (Kd.int .i64) 3 wc w.heap.size (fun k_ => some k_ ≠ ((.slice Ao29 t977.length co29) : Value).ownBlock ∧ some k_ ≠ ((.slice Ao46 t993.length co46) : Value).ownBlock) (.slice Ao36 t984.length co36) t1010) ∧ Aside0 (Kd.R (Kd.int .i64) 3 wc w.heap.size (fun k_ => some k_ ≠ ((.slice Ao29 t977.length co29) : Value).ownBlock ∧ some k_ ≠ ((.slice Ao36 t984.length co36) : Value).ownBlock) (.slice Ao46 t993.length co46) t993) ∧ Aside0 (wc.heap[gb965]? = some (.cells #[.int .i64 a0_0, .int .i64 a0_1, (.slice A0_2 l0_2.length c0_2)] 36 (0, 0))) ∧ Aside0 (wc.heap[gb981]? = some (.cells #[.int .i64 t975, .int .i64 t976, (.slice Ao29 t977.length co29)] 26 (0, 0))) ∧ Aside0 (wc.heap[gb987]? = some (.cells #[.int .i64 t982, .int .i64 t983, (.slice Ao36 t984.length co36)] 26 (0, 0))) ∧ Aside0 (wc.heap[gb997]? = some (.cells #[.int .i64 t991, .int .i64 t992, (.slice Ao46 t993.length co46)] 26 (0, 0))) ∧ Aside0 (Below w.heap.size w wc))
                  case first =>
                    as_aux_lemma =>
                      have H := HC74.out
                      clear HC74
                      by_cases c87 : t1011 < 0
                      · rw [if_pos c87] at H
                        have c87b0 : decide (t1011 < 0) = true := decide_eq_true c87
                        clear c87
                        (first | rw [c87b0] | (simp only [i64_w, i32_w]; rw [c87b0]) | skip)
                        have H' := Aside0.mk H
                        clear H
                        go_wp2
                        go_meet
                        case rel => exact ⟨_, (true), (by first | rfl | (simp; done) | (simp [*]; done)), H', ⟨by have := HJ15.out; first | omega | exact Nat.le_refl _⟩, ⟨by (with_reducible repeat (first | apply Kd.R_alloc | apply Kd.R_drewN | apply Kd.R_drew)); exact Kd.R_mono HO_982002.out (fun _ hk => ⟨hk.2.1, hk.2.2.1⟩)⟩, ⟨by (with_reducible repeat (first | apply Kd.R_alloc | apply Kd.R_drewN | apply Kd.R_drew)); exact Kd.R_mono HO_988002.out (fun _ hk => ⟨hk.2.1, hk.2.2.1⟩)⟩, ⟨by (with_reducible repeat (first | apply Kd.R_alloc | apply Kd.R_drewN | apply Kd.R_drew)); exact Kd.R_mono HO_998002.out (fun _ hk => ⟨hk.2.1, hk.2.2.1⟩)⟩, ⟨by (with_reducible repeat (first | refine blk_drewN ?_ _ | refine blk_drew ?_ | refine blk_alloc ?_ _)); exact BK965.out⟩, ⟨by (with_reducible repeat (first | refine blk_drewN ?_ _ | refine blk_drew ?_ | refine blk_alloc ?_ _)); exact BK981.out⟩, ⟨by (with_reducible repeat (first | refine blk_drewN ?_ _ | refine blk_drew ?_ | refine blk_alloc ?_ _)); exact BK987.out⟩, ⟨by (with_reducible repeat (first | refine blk_drewN ?_ _ | refine blk_drew ?_ | refine blk_alloc ?_ _)); exact BK997.out⟩, ⟨by repeat (first | (with_reducible first | exact HB.out | apply below_alloc | apply pw_below_drewN | apply below_drew1 | refine below_set ?_ GE965.out | refine below_set ?_ GE981.out | refine below_set ?_ GE987.out | refine below_set ?_ GE997.out) | exact HB.out)⟩⟩
                      · rw [if_neg c87] at H
                        have c87b0 : decide (t1011 < 0) = false := decide_eq_false c87
                        clear c87
                        (first | rw [c87b0] | (simp only [i64_w, i32_w]; rw [c87b0]) | skip)
                        replace H := Option.bind_eq_some_iff.mp H
                        obtain ⟨t1013, A880, H⟩ := H
                        replace H : (if t1013 = true then (laws_FnExactSpreadMean.j1 kj15 l1 t980 (t996 != t980) a0_0 a0_1 l0_2 t975 t976 t977 t991 t992 t993) else (laws_FnExactSpreadMean.j1 kj15 l1 t980 true a0_0 a0_1 l0_2 t975 t976 t977 t991 t992 t993)) = some r := H
                        have A88 := Aside0.mk A880
                        clear A880
                        by_cases c89 : t1013 = true
                        · subst c89
                          have H1 : (laws_FnExactSpreadMean.j1 kj15 l1 t980 (t996 != t980) a0_0 a0_1 l0_2 t975 t976 t977 t991 t992 t993) = some r := by rw [if_pos rfl] at H; exact H
                          clear H
                          have H := H1
                          clear H1
                          have H' := Aside0.mk H
                          clear H
                          have hnb90 := NB997_965.out
                          have hnc90 := NB965_997.out
                          have hnb91 := NB997_981.out
                          have hnc91 := NB981_997.out
                          have hnb92 := NB997_987.out
                          have hnc92 := NB987_997.out
                          have hcz93_0 : w86.cell? ⟨gb997, 0, none⟩ = some (.int .i64 t991) := (blk_cell BK997.out 0).trans rfl
                          have hcz93_1 : w86.cell? ⟨gb997, 1, none⟩ = some (.int .i64 t992) := (blk_cell BK997.out 1).trans rfl
                          have hcz93_2 : w86.cell? ⟨gb997, 2, none⟩ = some (.slice Ao46 t993.length co46) := (blk_cell BK997.out 2).trans rfl
                          have hfz93_0 := blk_frozen BK997.out 0
                          have hfz93_1 := blk_frozen BK997.out 1
                          have hfz93_2 := blk_frozen BK997.out 2
                          have hnb94 := NB981_965.out
                          have hnc94 := NB965_981.out
                          have hnb95 := NB981_987.out
                          have hnc95 := NB987_981.out
                          have hcz96_0 : w86.cell? ⟨gb981, 0, none⟩ = some (.int .i64 t975) := (blk_cell BK981.out 0).trans rfl
                          have hcz96_1 : w86.cell? ⟨gb981, 1, none⟩ = some (.int .i64 t976) := (blk_cell BK981.out 1).trans rfl
                          have hcz96_2 : w86.cell? ⟨gb981, 2, none⟩ = some (.slice Ao29 t977.length co29) := (blk_cell BK981.out 2).trans rfl
                          have hfz96_0 := blk_frozen BK981.out 0
                          have hfz96_1 := blk_frozen BK981.out 1
                          have hfz96_2 := blk_frozen BK981.out 2
                          go_wp2_with (first | (go_at_call 25; (with_reducible refine (laws_eqField.calls kj15 t991 t992 _ _ t993 t975 t976 _ _ t977 true _ ?side1 ?side2 ?side3 ?side4 A88.out).mono ?_); (case side1 => repeat (first | exact (Kd.R_reads' HO_998002.out).2.2 | (with_reducible refine Kd.C_alloc ?_ _) | (with_reducible refine Kd.C_drewN ?_ _) | (with_reducible refine Kd.C_drew ?_))); (case side2 => exact (Kd.R_reads' HO_998002.out).2.1); (case side3 => repeat (first | exact (Kd.R_reads' HO_982002.out).2.2 | (with_reducible refine Kd.C_alloc ?_ _) | (with_reducible refine Kd.C_drewN ?_ _) | (with_reducible refine Kd.C_drew ?_))); (case side4 => exact (Kd.R_reads' HO_982002.out).2.1); rintro e w97 ⟨rfl, hb⟩; have n0_ := Aside0.mk (Kd.R_below (by (with_reducible repeat (first | apply Kd.R_alloc | apply Kd.R_drewN | apply Kd.R_drew)); exact HO_9.out) hb); have n1_ := Aside0.mk (Kd.R_below (by (with_reducible repeat (first | apply Kd.R_alloc | apply Kd.R_drewN | apply Kd.R_drew)); exact HO_982002.out) hb); have n2_ := Aside0.mk (Kd.R_below (by (with_reducible repeat (first | apply Kd.R_alloc | apply Kd.R_drewN | apply Kd.R_drew)); exact HO_988002.out) hb); have n3_ := Aside0.mk (Kd.R_below (by (with_reducible repeat (first | apply Kd.R_alloc | apply Kd.R_drewN | apply Kd.R_drew)); exact HO_998002.out) hb); have n4_ := Aside0.mk (Kd.R_below (by (with_reducible repeat (first | apply Kd.R_alloc | apply Kd.R_drewN | apply Kd.R_drew)); exact HO1003.out) hb); have n5_ := Aside0.mk (Kd.R_below (by (with_reducible repeat (first | apply Kd.R_alloc | apply Kd.R_drewN | apply Kd.R_drew)); exact HO1007.out) hb); have n6_ := Aside0.mk (blk_below (g := gb965) (o := .cells #[.int .i64 a0_0, .int .i64 a0_1, .slice A0_2 l0_2.length c0_2] 36 (0, 0)) BK965.out hb); have n7_ := Aside0.mk (blk_below (g := gb981) (o := .cells #[.int .i64 t975, .int .i64 t976, .slice Ao29 t977.length co29] 26 (0, 0)) BK981.out hb); have n8_ := Aside0.mk (blk_below (g := gb987) (o := .cells #[.int .i64 t982, .int .i64 t983, .slice Ao36 t984.length co36] 26 (0, 0)) BK987.out hb); have n9_ := Aside0.mk (blk_below (g := gb997) (o := .cells #[.int .i64 t991, .int .i64 t992, .slice Ao46 t993.length co46] 26 (0, 0)) BK997.out hb); have n10_ := Aside0.mk (below_step (by repeat (first | (with_reducible first | exact HB.out | apply below_alloc | apply pw_below_drewN | apply below_drew1 | refine below_set ?_ GE965.out | refine below_set ?_ GE981.out | refine below_set ?_ GE987.out | refine below_set ?_ GE997.out) | exact HB.out)) hb); clear HO_9; clear HO_982002; clear HO_988002; clear HO_998002; clear HO1003; clear HO1007; clear BK965; clear BK981; clear BK987; clear BK997; clear HB; have HO_9 := n0_; have HO_982002 := n1_; have HO_988002 := n2_; have HO_998002 := n3_; have HO1003 := n4_; have HO1007 := n5_; have BK965 := n6_; have BK981 := n7_; have BK987 := n8_; have BK997 := n9_; have HB := n10_; clear n0_ n1_ n2_ n3_ n4_ n5_ n6_ n7_ n8_ n9_ n10_; (try clear hb); (try clear hb2); (try clear hk); (try clear hi)))
                          go_meet
                          case rel => exact ⟨_, ((t996 != t980)), (by first | rfl | (simp; done) | (simp [*]; done)), H', ⟨by have := HJ15.out; first | omega | exact Nat.le_refl _⟩, ⟨by (with_reducible repeat (first | apply Kd.R_alloc | apply Kd.R_drewN | apply Kd.R_drew)); exact Kd.R_mono HO_982002.out (fun _ hk => ⟨hk.2.1, hk.2.2.1⟩)⟩, ⟨by (with_reducible repeat (first | apply Kd.R_alloc | apply Kd.R_drewN | apply Kd.R_drew)); exact Kd.R_mono HO_988002.out (fun _ hk => ⟨hk.2.1, hk.2.2.1⟩)⟩, ⟨by (with_reducible repeat (first | apply Kd.R_alloc | apply Kd.R_drewN | apply Kd.R_drew)); exact Kd.R_mono HO_998002.out (fun _ hk => ⟨hk.2.1, hk.2.2.1⟩)⟩, ⟨by (with_reducible repeat (first | refine blk_drewN ?_ _ | refine blk_drew ?_ | refine blk_alloc ?_ _)); exact BK965.out⟩, ⟨by (with_reducible repeat (first | refine blk_drewN ?_ _ | refine blk_drew ?_ | refine blk_alloc ?_ _)); exact BK981.out⟩, ⟨by (with_reducible repeat (first | refine blk_drewN ?_ _ | refine blk_drew ?_ | refine blk_alloc ?_ _)); exact BK987.out⟩, ⟨by (with_reducible repeat (first | refine blk_drewN ?_ _ | refine blk_drew ?_ | refine blk_alloc ?_ _)); exact BK997.out⟩, ⟨by repeat (first | (with_reducible first | exact HB.out | apply below_alloc | apply pw_below_drewN | apply below_drew1 | refine below_set ?_ GE965.out | refine below_set ?_ GE981.out | refine below_set ?_ GE987.out | refine below_set ?_ GE997.out) | exact HB.out)⟩⟩
                        · replace c89 := Bool.eq_false_iff.mpr c89
                          subst c89
                          have H1 : (laws_FnExactSpreadMean.j1 kj15 l1 t980 true a0_0 a0_1 l0_2 t975 t976 t977 t991 t992 t993) = some r := by rw [if_neg (show ¬ (false = true) by decide)] at H; exact H
                          clear H
                          have H := H1
                          clear H1
                          have H' := Aside0.mk H
                          clear H
                          have hnb98 := NB997_965.out
                          have hnc98 := NB965_997.out
                          have hnb99 := NB997_981.out
                          have hnc99 := NB981_997.out
                          have hnb100 := NB997_987.out
                          have hnc100 := NB987_997.out
                          have hcz101_0 : w86.cell? ⟨gb997, 0, none⟩ = some (.int .i64 t991) := (blk_cell BK997.out 0).trans rfl
                          have hcz101_1 : w86.cell? ⟨gb997, 1, none⟩ = some (.int .i64 t992) := (blk_cell BK997.out 1).trans rfl
                          have hcz101_2 : w86.cell? ⟨gb997, 2, none⟩ = some (.slice Ao46 t993.length co46) := (blk_cell BK997.out 2).trans rfl
                          have hfz101_0 := blk_frozen BK997.out 0
                          have hfz101_1 := blk_frozen BK997.out 1
                          have hfz101_2 := blk_frozen BK997.out 2
                          have hnb102 := NB981_965.out
                          have hnc102 := NB965_981.out
                          have hnb103 := NB981_987.out
                          have hnc103 := NB987_981.out
                          have hcz104_0 : w86.cell? ⟨gb981, 0, none⟩ = some (.int .i64 t975) := (blk_cell BK981.out 0).trans rfl
                          have hcz104_1 : w86.cell? ⟨gb981, 1, none⟩ = some (.int .i64 t976) := (blk_cell BK981.out 1).trans rfl
                          have hcz104_2 : w86.cell? ⟨gb981, 2, none⟩ = some (.slice Ao29 t977.length co29) := (blk_cell BK981.out 2).trans rfl
                          have hfz104_0 := blk_frozen BK981.out 0
                          have hfz104_1 := blk_frozen BK981.out 1
                          have hfz104_2 := blk_frozen BK981.out 2
                          go_wp2_with (first | (go_at_call 25; (with_reducible refine (laws_eqField.calls kj15 t991 t992 _ _ t993 t975 t976 _ _ t977 false _ ?side1 ?side2 ?side3 ?side4 A88.out).mono ?_); (case side1 => repeat (first | exact (Kd.R_reads' HO_998002.out).2.2 | (with_reducible refine Kd.C_alloc ?_ _) | (with_reducible refine Kd.C_drewN ?_ _) | (with_reducible refine Kd.C_drew ?_))); (case side2 => exact (Kd.R_reads' HO_998002.out).2.1); (case side3 => repeat (first | exact (Kd.R_reads' HO_982002.out).2.2 | (with_reducible refine Kd.C_alloc ?_ _) | (with_reducible refine Kd.C_drewN ?_ _) | (with_reducible refine Kd.C_drew ?_))); (case side4 => exact (Kd.R_reads' HO_982002.out).2.1); rintro e w105 ⟨rfl, hb⟩; have n0_ := Aside0.mk (Kd.R_below (by (with_reducible repeat (first | apply Kd.R_alloc | apply Kd.R_drewN | apply Kd.R_drew)); exact HO_9.out) hb); have n1_ := Aside0.mk (Kd.R_below (by (with_reducible repeat (first | apply Kd.R_alloc | apply Kd.R_drewN | apply Kd.R_drew)); exact HO_982002.out) hb); have n2_ := Aside0.mk (Kd.R_below (by (with_reducible repeat (first | apply Kd.R_alloc | apply Kd.R_drewN | apply Kd.R_drew)); exact HO_988002.out) hb); have n3_ := Aside0.mk (Kd.R_below (by (with_reducible repeat (first | apply Kd.R_alloc | apply Kd.R_drewN | apply Kd.R_drew)); exact HO_998002.out) hb); have n4_ := Aside0.mk (Kd.R_below (by (with_reducible repeat (first | apply Kd.R_alloc | apply Kd.R_drewN | apply Kd.R_drew)); exact HO1003.out) hb); have n5_ := Aside0.mk (Kd.R_below (by (with_reducible repeat (first | apply Kd.R_alloc | apply Kd.R_drewN | apply Kd.R_drew)); exact HO1007.out) hb); have n6_ := Aside0.mk (blk_below (g := gb965) (o := .cells #[.int .i64 a0_0, .int .i64 a0_1, .slice A0_2 l0_2.length c0_2] 36 (0, 0)) BK965.out hb); have n7_ := Aside0.mk (blk_below (g := gb981) (o := .cells #[.int .i64 t975, .int .i64 t976, .slice Ao29 t977.length co29] 26 (0, 0)) BK981.out hb); have n8_ := Aside0.mk (blk_below (g := gb987) (o := .cells #[.int .i64 t982, .int .i64 t983, .slice Ao36 t984.length co36] 26 (0, 0)) BK987.out hb); have n9_ := Aside0.mk (blk_below (g := gb997) (o := .cells #[.int .i64 t991, .int .i64 t992, .slice Ao46 t993.length co46] 26 (0, 0)) BK997.out hb); have n10_ := Aside0.mk (below_step (by repeat (first | (with_reducible first | exact HB.out | apply below_alloc | apply pw_below_drewN | apply below_drew1 | refine below_set ?_ GE965.out | refine below_set ?_ GE981.out | refine below_set ?_ GE987.out | refine below_set ?_ GE997.out) | exact HB.out)) hb); clear HO_9; clear HO_982002; clear HO_988002; clear HO_998002; clear HO1003; clear HO1007; clear BK965; clear BK981; clear BK987; clear BK997; clear HB; have HO_9 := n0_; have HO_982002 := n1_; have HO_988002 := n2_; have HO_998002 := n3_; have HO1003 := n4_; have HO1007 := n5_; have BK965 := n6_; have BK981 := n7_; have BK987 := n8_; have BK997 := n9_; have HB := n10_; clear n0_ n1_ n2_ n3_ n4_ n5_ n6_ n7_ n8_ n9_ n10_; (try clear hb); (try clear hb2); (try clear hk); (try clear hi)))
                          go_meet
                          case rel => exact ⟨_, (true), (by first | rfl | (simp; done) | (simp [*]; done)), H', ⟨by have := HJ15.out; first | omega | exact Nat.le_refl _⟩, ⟨by (with_reducible repeat (first | apply Kd.R_alloc | apply Kd.R_drewN | apply Kd.R_drew)); exact Kd.R_mono HO_982002.out (fun _ hk => ⟨hk.2.1, hk.2.2.1⟩)⟩, ⟨by (with_reducible repeat (first | apply Kd.R_alloc | apply Kd.R_drewN | apply Kd.R_drew)); exact Kd.R_mono HO_988002.out (fun _ hk => ⟨hk.2.1, hk.2.2.1⟩)⟩, ⟨by (with_reducible repeat (first | apply Kd.R_alloc | apply Kd.R_drewN | apply Kd.R_drew)); exact Kd.R_mono HO_998002.out (fun _ hk => ⟨hk.2.1, hk.2.2.1⟩)⟩, ⟨by (with_reducible repeat (first | refine blk_drewN ?_ _ | refine blk_drew ?_ | refine blk_alloc ?_ _)); exact BK965.out⟩, ⟨by (with_reducible repeat (first | refine blk_drewN ?_ _ | refine blk_drew ?_ | refine blk_alloc ?_ _)); exact BK981.out⟩, ⟨by (with_reducible repeat (first | refine blk_drewN ?_ _ | refine blk_drew ?_ | refine blk_alloc ?_ _)); exact BK987.out⟩, ⟨by (with_reducible repeat (first | refine blk_drewN ?_ _ | refine blk_drew ?_ | refine blk_alloc ?_ _)); exact BK997.out⟩, ⟨by repeat (first | (with_reducible first | exact HB.out | apply below_alloc | apply pw_below_drewN | apply below_drew1 | refine below_set ?_ GE965.out | refine below_set ?_ GE981.out | refine below_set ?_ GE987.out | refine below_set ?_ GE997.out) | exact HB.out)⟩⟩
                  case rest =>
                    as_aux_lemma =>
                      clear HC74
                      try clear c1
                      try clear c2
                      try clear p2
                      try clear c3
                      try clear c3b0
                      try clear c3b1
                      try clear c4
                      try clear c5
                      try clear c6
                      try clear c6b0
                      try clear c7
                      try clear c8
                      try clear c9
                      try clear c10
                      try clear c20
                      try clear c22
                      try clear c23
                      try clear c25
                      try clear c26
                      try clear c27
                      try clear c28
                      try clear c33
                      try clear c34
                      try clear c35
                      try clear c42
                      try clear c43
                      try clear c44
                      try clear c48
                      try clear c49
                      try clear c50
                      try clear c51
                      try clear c53
                      try clear c54
                      try clear c57
                      try clear c58
                      try clear c59
                      try clear c61
                      try clear c62
                      try clear c65
                      try clear c68
                      try clear c71
                      try clear c81
                      try clear c82
                      try clear c83
                      try clear c87
                      try clear c87b0
                      try clear c89
                      try clear c90
                      try clear c91
                      try clear c92
                      try clear c94
                      try clear c95
                      try clear c98
                      try clear c99
                      try clear c100
                      try clear c102
                      try clear c103
                      try clear hcz101_0
                      try clear hcz101_1
                      try clear hcz101_2
                      try clear hcz104_0
                      try clear hcz104_1
                      try clear hcz104_2
                      try clear hcz18_0
                      try clear hcz18_1
                      try clear hcz18_2
                      try clear hcz20_0
                      try clear hcz20_1
                      try clear hcz20_2
                      try clear hcz28_0
                      try clear hcz28_1
                      try clear hcz28_2
                      try clear hcz30_0
                      try clear hcz30_1
                      try clear hcz30_2
                      try clear hcz35_0
                      try clear hcz35_1
                      try clear hcz35_2
                      try clear hcz38_0
                      try clear hcz38_1
                      try clear hcz38_2
                      try clear hcz45_0
                      try clear hcz45_1
                      try clear hcz45_2
                      try clear hcz52_0
                      try clear hcz52_1
                      try clear hcz52_2
                      try clear hcz55_0
                      try clear hcz55_1
                      try clear hcz55_2
                      try clear hcz60_0
                      try clear hcz60_1
                      try clear hcz60_2
                      try clear hcz63_0
                      try clear hcz63_1
                      try clear hcz63_2
                      try clear hcz84_0
                      try clear hcz84_1
                      try clear hcz84_2
                      try clear hcz8_0
                      try clear hcz8_1
                      try clear hcz8_2
                      try clear hcz93_0
                      try clear hcz93_1
                      try clear hcz93_2
                      try clear hcz96_0
                      try clear hcz96_1
                      try clear hcz96_2
                      try clear hfz101_0
                      try clear hfz101_1
                      try clear hfz101_2
                      try clear hfz104_0
                      try clear hfz104_1
                      try clear hfz104_2
                      try clear hfz18_0
                      try clear hfz18_1
                      try clear hfz18_2
                      try clear hfz20_0
                      try clear hfz20_1
                      try clear hfz20_2
                      try clear hfz28_0
                      try clear hfz28_1
                      try clear hfz28_2
                      try clear hfz30_0
                      try clear hfz30_1
                      try clear hfz30_2
                      try clear hfz35_0
                      try clear hfz35_1
                      try clear hfz35_2
                      try clear hfz38_0
                      try clear hfz38_1
                      try clear hfz38_2
                      try clear hfz45_0
                      try clear hfz45_1
                      try clear hfz45_2
                      try clear hfz52_0
                      try clear hfz52_1
                      try clear hfz52_2
                      try clear hfz55_0
                      try clear hfz55_1
                      try clear hfz55_2
                      try clear hfz60_0
                      try clear hfz60_1
                      try clear hfz60_2
                      try clear hfz63_0
                      try clear hfz63_1
                      try clear hfz63_2
                      try clear hfz84_0
                      try clear hfz84_1
                      try clear hfz84_2
                      try clear hfz8_0
                      try clear hfz8_1
                      try clear hfz8_2
                      try clear hfz93_0
                      try clear hfz93_1
                      try clear hfz93_2
                      try clear hfz96_0
                      try clear hfz96_1
                      try clear hfz96_2
                      try clear p2
                      obtain ⟨kq, x80_73, rfl, HA, HJ73, HO_982002, HO_988002, HO_998002, BK965, BK981, BK987, BK997, HB⟩ := hcut
                      have hl988002_73 := (Kd.R_reads' HO_988002.out).1
                      rw [hl988002_73] at HO_988002
                      (try simp only [hl988002_73])
                      (try simp only [hl988002_73] at BK965)
                      (try simp only [hl988002_73] at BK981)
                      (try simp only [hl988002_73] at BK987)
                      (try simp only [hl988002_73] at BK997)
                      (try simp only [hl988002_73] at HO_982002)
                      (try simp only [hl988002_73] at HO_998002)
                      cases kq with
                      | zero => exact absurd HA.out (by simp [laws_FnExactSpreadMean.j1])
                      | succ kj73 =>
                        have H := HA.out
                        clear HA
                        simp only [laws_FnExactSpreadMean.j1] at H
                        by_cases c106 : x80_73 = true
                        · subst c106
                          have H1 : (some false) = some r := by rw [if_pos rfl] at H; exact H
                          exact absurd ((Option.some.inj H1).trans hrt_) (by decide)
                        · replace c106 := Bool.eq_false_iff.mpr c106
                          subst c106
                          have H1 : ((laws_markField.f kj73 t991 t992 t993 1).bind fun bt1014 => ((laws_heldField.f kj73 t991 t992 bt1014.2 1).bind fun t1016 => (if t1016 < 0 then (some false) else (if t1016 = bt1014.1 then ((laws_toField.f kj73 a0_0 a0_1 l0_2).bind fun bt1017 => ((laws_toIntS.f kj73 l1).bind fun t1022 => ((impl_SpreadMean.f kj73 bt1017.1 bt1017.2.1 bt1017.2.2 t1022).bind fun bt1025 => ((laws_eqField.f kj73 bt1025.1 bt1025.2.1 bt1025.2.2.1 t975 t976 t977).bind fun t1032 => (if t1032 = true then (laws_FnExactSpreadMean.j2 kj73 bt1014.1 (bt1025.2.2.2 != t980) t991 t992 bt1014.2) else (laws_FnExactSpreadMean.j2 kj73 bt1014.1 true t991 t992 bt1014.2)))))) else (some false))))) = some r := by rw [if_neg (show ¬ (false = true) by decide)] at H; exact H
                          clear H
                          have H := H1
                          clear H1
                          replace H := Option.bind_eq_some_iff.mp H
                          obtain ⟨⟨t1014, t1015⟩, A1070, H⟩ := H
                          replace H : ((laws_heldField.f kj73 t991 t992 t1015 1).bind fun t1016 => (if t1016 < 0 then (some false) else (if t1016 = t1014 then ((laws_toField.f kj73 a0_0 a0_1 l0_2).bind fun bt1017 => ((laws_toIntS.f kj73 l1).bind fun t1022 => ((impl_SpreadMean.f kj73 bt1017.1 bt1017.2.1 bt1017.2.2 t1022).bind fun bt1025 => ((laws_eqField.f kj73 bt1025.1 bt1025.2.1 bt1025.2.2.1 t975 t976 t977).bind fun t1032 => (if t1032 = true then (laws_FnExactSpreadMean.j2 kj73 t1014 (bt1025.2.2.2 != t980) t991 t992 t1015) else (laws_FnExactSpreadMean.j2 kj73 t1014 true t991 t992 t1015)))))) else (some false)))) = some r := H
                          have A107 := Aside0.mk A1070
                          clear A1070
                          replace H := Option.bind_eq_some_iff.mp H
                          obtain ⟨t1016, A1080, H⟩ := H
                          replace H : (if t1016 < 0 then (some false) else (if t1016 = t1014 then ((laws_toField.f kj73 a0_0 a0_1 l0_2).bind fun bt1017 => ((laws_toIntS.f kj73 l1).bind fun t1022 => ((impl_SpreadMean.f kj73 bt1017.1 bt1017.2.1 bt1017.2.2 t1022).bind fun bt1025 => ((laws_eqField.f kj73 bt1025.1 bt1025.2.1 bt1025.2.2.1 t975 t976 t977).bind fun t1032 => (if t1032 = true then (laws_FnExactSpreadMean.j2 kj73 t1014 (bt1025.2.2.2 != t980) t991 t992 t1015) else (laws_FnExactSpreadMean.j2 kj73 t1014 true t991 t992 t1015)))))) else (some false))) = some r := H
                          have A108 := Aside0.mk A1080
                          clear A1080
                          by_cases c109 : t1016 < 0
                          · rw [if_pos c109] at H
                            have c109b0 : decide (t1016 < 0) = true := decide_eq_true c109
                            clear c109
                            exact absurd ((Option.some.inj H).trans hrt_) (by decide)
                          · rw [if_neg c109] at H
                            have c109b0 : decide (t1016 < 0) = false := decide_eq_false c109
                            clear c109
                            by_cases c117 : t1016 = t1014
                            · rw [if_pos c117] at H
                              have c117b0 : (t1016 == t1014) = true := beq_iff_eq.mpr c117
                              have c117b1 : (t1016 != t1014) = false := bne_eq_false_iff_eq.mpr c117
                              clear c117
                              replace H := Option.bind_eq_some_iff.mp H
                              obtain ⟨⟨t1017, t1018, t1019⟩, A1180, H⟩ := H
                              replace H : ((laws_toIntS.f kj73 l1).bind fun t1022 => ((impl_SpreadMean.f kj73 t1017 t1018 t1019 t1022).bind fun bt1025 => ((laws_eqField.f kj73 bt1025.1 bt1025.2.1 bt1025.2.2.1 t975 t976 t977).bind fun t1032 => (if t1032 = true then (laws_FnExactSpreadMean.j2 kj73 t1014 (bt1025.2.2.2 != t980) t991 t992 t1015) else (laws_FnExactSpreadMean.j2 kj73 t1014 true t991 t992 t1015))))) = some r := H
                              have A118 := Aside0.mk A1180
                              clear A1180
                              replace H := Option.bind_eq_some_iff.mp H
                              obtain ⟨t1022, A1190, H⟩ := H
                              replace H : ((impl_SpreadMean.f kj73 t1017 t1018 t1019 t1022).bind fun bt1025 => ((laws_eqField.f kj73 bt1025.1 bt1025.2.1 bt1025.2.2.1 t975 t976 t977).bind fun t1032 => (if t1032 = true then (laws_FnExactSpreadMean.j2 kj73 t1014 (bt1025.2.2.2 != t980) t991 t992 t1015) else (laws_FnExactSpreadMean.j2 kj73 t1014 true t991 t992 t1015)))) = some r := H
                              have A119 := Aside0.mk A1190
                              clear A1190
                              replace H := Option.bind_eq_some_iff.mp H
                              obtain ⟨⟨t1025, t1026, t1027, t1030⟩, A1200, H⟩ := H
                              replace H : ((laws_eqField.f kj73 t1025 t1026 t1027 t975 t976 t977).bind fun t1032 => (if t1032 = true then (laws_FnExactSpreadMean.j2 kj73 t1014 (t1030 != t980) t991 t992 t1015) else (laws_FnExactSpreadMean.j2 kj73 t1014 true t991 t992 t1015))) = some r := H
                              have A120 := Aside0.mk A1200
                              clear A1200
                              have HC121 := Aside0.mk H
                              clear H
                              have hnb122 := NB997_965.out
                              have hnc122 := NB965_997.out
                              have hnb123 := NB997_981.out
                              have hnc123 := NB981_997.out
                              have hnb124 := NB997_987.out
                              have hnc124 := NB987_997.out
                              have hcz125_0 : wc.cell? ⟨gb997, 0, none⟩ = some (.int .i64 t991) := (blk_cell BK997.out 0).trans rfl
                              have hcz125_1 : wc.cell? ⟨gb997, 1, none⟩ = some (.int .i64 t992) := (blk_cell BK997.out 1).trans rfl
                              have hcz125_2 : wc.cell? ⟨gb997, 2, none⟩ = some (.slice Ao46 t993.length co46) := (blk_cell BK997.out 2).trans rfl
                              have hfz125_0 := blk_frozen BK997.out 0
                              have hfz125_1 := blk_frozen BK997.out 1
                              have hfz125_2 := blk_frozen BK997.out 2
                              go_upto_region 31 with (first | ((with_reducible refine gate_callee (f := 27) rfl ?_); refine goesL_ (some 83) rfl rfl Try.func27 (by kernel_rfl) rfl #[.agg #[.int .i64 t991, .int .i64 t992, .slice Ao46 t993.length co46], .int .i64 1] rfl (by (try simp only [List.map_toArray, List.map_cons, List.map_nil]); first | done | rfl | (simp only [List.length_drop, List.length_take]; rfl)) ?_; (with_reducible refine (laws_markField.calls kj73 t991 t992 (fun k_ => some k_ = (.slice Ao46 t993.length co46 : Value).ownBlock) (.slice Ao46 t993.length co46) t993 1 t1014 t1015 w _ ?side1 ?side2 A107.out).mono ?_); (case side1 => repeat (first | (with_reducible first | exact HB.out | apply below_alloc | apply pw_below_drewN | apply below_drew1 | refine below_set ?_ GE965.out | refine below_set ?_ GE981.out | refine below_set ?_ GE987.out | refine below_set ?_ GE997.out) | exact HB.out)); (case side2 => exact Kd.R_tight rfl HO_998002.out); rintro e w126 ⟨rfl, hy0, hb, hkp⟩; refine ⟨_, rfl, ?_⟩; have n0_ := Aside0.mk (Kd.R_mono (ok' := fun k_ => some k_ ≠ (.slice Ao36 t1010.length co36 : Value).ownBlock ∧ some k_ ≠ (.slice Ao46 t993.length co46 : Value).ownBlock) (Kd.R_keptB (HO_982002.out) hkp (fun k_ hk_ hs_ => (hk_.2) hs_)) (fun k_ hk_ => ⟨hk_.1.1, hk_.1.2⟩)); have n1_ := Aside0.mk (Kd.R_mono (ok' := fun k_ => some k_ ≠ (.slice Ao29 t977.length co29 : Value).ownBlock ∧ some k_ ≠ (.slice Ao46 t993.length co46 : Value).ownBlock) (Kd.R_keptB (HO_988002.out) hkp (fun k_ hk_ hs_ => (hk_.2) hs_)) (fun k_ hk_ => ⟨hk_.1.1, hk_.1.2⟩)); have n2_ := Aside0.mk (Kd.R_reok rfl hy0 (fun k_ e_ => HO_998002.out.1 k_ e_)); have n3_ := Aside0.mk (blk_kept BK965.out hkp (fun hs_ => (fun e_ => (Kd.R_ne HO_998002.out BK965.out (by decide)) e_) hs_)); have n4_ := Aside0.mk (blk_kept BK981.out hkp (fun hs_ => (fun e_ => (Kd.R_ne HO_998002.out BK981.out (by decide)) e_) hs_)); have n5_ := Aside0.mk (blk_kept BK987.out hkp (fun hs_ => (fun e_ => (Kd.R_ne HO_998002.out BK987.out (by decide)) e_) hs_)); have n6_ := Aside0.mk (blk_kept BK997.out hkp (fun hs_ => (fun e_ => (Kd.R_ne HO_998002.out BK997.out (by decide)) e_) hs_)); have n7_ := Aside0.mk (hb); clear HO_982002; clear HO_988002; clear HO_998002; clear BK965; clear BK981; clear BK987; clear BK997; clear HB; have HO_982002 := n0_; have HO_988002 := n1_; have HO_998002 := n2_; have BK965 := n3_; have BK981 := n4_; have BK987 := n5_; have BK997 := n6_; have HB := n7_; clear n0_ n1_ n2_ n3_ n4_ n5_ n6_ n7_; (try clear hb); (try clear hkp); (try clear hy0); have hcz127_0 : w126.cell? ⟨gb997, 0, none⟩ = some (.int .i64 t991) := (blk_cell BK997.out 0).trans rfl; have hcz127_1 : w126.cell? ⟨gb997, 1, none⟩ = some (.int .i64 t992) := (blk_cell BK997.out 1).trans rfl; have hcz127_2 : w126.cell? ⟨gb997, 2, none⟩ = some (.slice Ao46 t993.length co46) := (blk_cell BK997.out 2).trans rfl; have hfz127_0 := blk_frozen BK997.out 0; have hfz127_1 := blk_frozen BK997.out 1; have hfz127_2 := blk_frozen BK997.out 2) | ((with_reducible refine gate_callee (f := 29) rfl ?_); refine goesL_ (some 86) rfl rfl Try.func29 (by kernel_rfl) rfl #[.agg #[.int .i64 t991, .int .i64 t992, .slice Ao46 t1015.length co46], .int .i64 1] rfl (by (try simp only [List.map_toArray, List.map_cons, List.map_nil]); first | done | (rw [show t1015.length = t993.length from (Kd.R_reads' HO_998002.out).1.symm] <;> rfl) | rfl | (simp only [List.length_drop, List.length_take]; rfl)) ?_; (with_reducible refine (laws_heldField.calls kj73 t991 t992 _ _ t1015 1 t1016 _ ?side1 ?side2 A108.out).mono ?_); (case side1 => repeat (first | exact (Kd.R_reads' HO_998002.out).2.2 | (with_reducible refine Kd.C_alloc ?_ _) | (with_reducible refine Kd.C_drewN ?_ _) | (with_reducible refine Kd.C_drew ?_))); (case side2 => rw [show t1015.length = t993.length from (Kd.R_reads' HO_998002.out).1.symm]; exact (Kd.R_reads' HO_998002.out).2.1); rintro e w128 ⟨rfl, hb⟩; refine ⟨_, rfl, ?_⟩; have n0_ := Aside0.mk (Kd.R_below (by (with_reducible repeat (first | apply Kd.R_alloc | apply Kd.R_drewN | apply Kd.R_drew)); exact HO_982002.out) hb); have n1_ := Aside0.mk (Kd.R_below (by (with_reducible repeat (first | apply Kd.R_alloc | apply Kd.R_drewN | apply Kd.R_drew)); exact HO_988002.out) hb); have n2_ := Aside0.mk (Kd.R_below (by (with_reducible repeat (first | apply Kd.R_alloc | apply Kd.R_drewN | apply Kd.R_drew)); exact HO_998002.out) hb); have n3_ := Aside0.mk (blk_below (g := gb965) (o := .cells #[.int .i64 a0_0, .int .i64 a0_1, .slice A0_2 l0_2.length c0_2] 36 (0, 0)) BK965.out hb); have n4_ := Aside0.mk (blk_below (g := gb981) (o := .cells #[.int .i64 t975, .int .i64 t976, .slice Ao29 t977.length co29] 26 (0, 0)) BK981.out hb); have n5_ := Aside0.mk (blk_below (g := gb987) (o := .cells #[.int .i64 t982, .int .i64 t983, .slice Ao36 t1010.length co36] 26 (0, 0)) BK987.out hb); have n6_ := Aside0.mk (blk_below (g := gb997) (o := .cells #[.int .i64 t991, .int .i64 t992, .slice Ao46 t993.length co46] 26 (0, 0)) BK997.out hb); have n7_ := Aside0.mk (below_step (by repeat (first | (with_reducible first | exact HB.out | apply below_alloc | apply pw_below_drewN | apply below_drew1 | refine below_set ?_ GE965.out | refine below_set ?_ GE981.out | refine below_set ?_ GE987.out | refine below_set ?_ GE997.out) | exact HB.out)) hb); clear HO_982002; clear HO_988002; clear HO_998002; clear BK965; clear BK981; clear BK987; clear BK997; clear HB; have HO_982002 := n0_; have HO_988002 := n1_; have HO_998002 := n2_; have BK965 := n3_; have BK981 := n4_; have BK987 := n5_; have BK997 := n6_; have HB := n7_; clear n0_ n1_ n2_ n3_ n4_ n5_ n6_ n7_; (try clear hb); (try clear hb2); (try clear hk); (try clear hi); have hnb129 := NB965_981.out; have hnc129 := NB981_965.out; have hnb130 := NB965_987.out; have hnc130 := NB987_965.out; have hcz131_0 : w128.cell? ⟨gb965, 0, none⟩ = some (.int .i64 a0_0) := (blk_cell BK965.out 0).trans rfl; have hcz131_1 : w128.cell? ⟨gb965, 1, none⟩ = some (.int .i64 a0_1) := (blk_cell BK965.out 1).trans rfl; have hcz131_2 : w128.cell? ⟨gb965, 2, none⟩ = some (.slice A0_2 l0_2.length c0_2) := (blk_cell BK965.out 2).trans rfl; have hfz131_0 := blk_frozen BK965.out 0; have hfz131_1 := blk_frozen BK965.out 1; have hfz131_2 := blk_frozen BK965.out 2) | ((with_reducible refine gate_callee (f := 22) rfl ?_); refine goesL_ (some 94) rfl rfl Try.func22 (by kernel_rfl) rfl #[.agg #[.int .i64 a0_0, .int .i64 a0_1, .slice A0_2 l0_2.length c0_2]] rfl (by (try simp only [List.map_toArray, List.map_cons, List.map_nil]); first | done | rfl | (simp only [List.length_drop, List.length_take]; rfl)) ?_; (with_reducible refine (laws_toField.calls kj73 a0_0 a0_1 _ _ l0_2 t1017 t1018 t1019 _ ?side1 ?side2 A118.out).mono ?_); (case side1 => repeat (first | exact (Kd.C_below HR0_2.out HB.out) | (with_reducible refine Kd.C_alloc ?_ _) | (with_reducible refine Kd.C_drewN ?_ _) | (with_reducible refine Kd.C_drew ?_))); (case side2 => exact HC0_2.out); rintro e w132 ⟨v1020, rfl, ho0, hb⟩; refine ⟨_, rfl, ?_⟩; have n0_ := Aside0.mk (Kd.R_elder' (by (with_reducible repeat (first | apply Kd.R_alloc | apply Kd.R_drewN | apply Kd.R_drew)); exact HO_982002.out) (Kd.R_base ho0) hb); have n1_ := Aside0.mk (Kd.R_elder' (by (with_reducible repeat (first | apply Kd.R_alloc | apply Kd.R_drewN | apply Kd.R_drew)); exact HO_988002.out) (Kd.R_base ho0) hb); have n2_ := Aside0.mk (Kd.R_elder' (by (with_reducible repeat (first | apply Kd.R_alloc | apply Kd.R_drewN | apply Kd.R_drew)); exact HO_998002.out) (Kd.R_base ho0) hb); have n3_ := Aside0.mk (Kd.R_lower (Kd.R_new' (Kd.R_new' (Kd.R_new' ho0 (Kd.R_lt (by (with_reducible repeat (first | apply Kd.R_alloc | apply Kd.R_drewN | apply Kd.R_drew)); exact HO_982002.out))) (Kd.R_lt (by (with_reducible repeat (first | apply Kd.R_alloc | apply Kd.R_drewN | apply Kd.R_drew)); exact HO_988002.out))) (Kd.R_lt (by (with_reducible repeat (first | apply Kd.R_alloc | apply Kd.R_drewN | apply Kd.R_drew)); exact HO_998002.out))) (below_size (by repeat (first | (with_reducible first | exact HB.out | apply below_alloc | apply pw_below_drewN | apply below_drew1 | refine below_set ?_ GE965.out | refine below_set ?_ GE981.out | refine below_set ?_ GE987.out | refine below_set ?_ GE997.out) | exact HB.out)))); have n4_ := Aside0.mk (blk_below (g := gb965) (o := .cells #[.int .i64 a0_0, .int .i64 a0_1, .slice A0_2 l0_2.length c0_2] 36 (0, 0)) BK965.out hb); have n5_ := Aside0.mk (blk_below (g := gb981) (o := .cells #[.int .i64 t975, .int .i64 t976, .slice Ao29 t977.length co29] 26 (0, 0)) BK981.out hb); have n6_ := Aside0.mk (blk_below (g := gb987) (o := .cells #[.int .i64 t982, .int .i64 t983, .slice Ao36 t1010.length co36] 26 (0, 0)) BK987.out hb); have n7_ := Aside0.mk (blk_below (g := gb997) (o := .cells #[.int .i64 t991, .int .i64 t992, .slice Ao46 t993.length co46] 26 (0, 0)) BK997.out hb); have n8_ := Aside0.mk (below_step (by repeat (first | (with_reducible first | exact HB.out | apply below_alloc | apply pw_below_drewN | apply below_drew1 | refine below_set ?_ GE965.out | refine below_set ?_ GE981.out | refine below_set ?_ GE987.out | refine below_set ?_ GE997.out) | exact HB.out)) hb); clear HO_982002; clear HO_988002; clear HO_998002; clear BK965; clear BK981; clear BK987; clear BK997; clear HB; have HO_982002 := n0_; have HO_988002 := n1_; have HO_998002 := n2_; have HO1021 := n3_; have BK965 := n4_; have BK981 := n5_; have BK987 := n6_; have BK997 := n7_; have HB := n8_; clear n0_ n1_ n2_ n3_ n4_ n5_ n6_ n7_ n8_; (try clear hb); (try clear hb2); (try clear hk); (try clear hi); (try clear ho0)) | ((with_reducible refine gate_callee (f := 23) rfl ?_); refine goesL_ (some 96) rfl rfl Try.func23 (by kernel_rfl) rfl #[.slice A1 l1.length c1] rfl (by (try simp only [List.map_toArray, List.map_cons, List.map_nil]); first | done | rfl | (simp only [List.length_drop, List.length_take]; rfl)) ?_; (with_reducible refine (laws_toIntS.calls kj73 _ _ l1 t1022 _ ?side1 ?side2 A119.out).mono ?_); (case side1 => repeat (first | exact (Kd.C_below HR1.out HB.out) | (with_reducible refine Kd.C_alloc ?_ _) | (with_reducible refine Kd.C_drewN ?_ _) | (with_reducible refine Kd.C_drew ?_))); (case side2 => exact HC1.out); rintro e w133 ⟨v1023, rfl, ho0, hb⟩; refine ⟨_, rfl, ?_⟩; have n0_ := Aside0.mk (Kd.R_elder' (by (with_reducible repeat (first | apply Kd.R_alloc | apply Kd.R_drewN | apply Kd.R_drew)); exact HO_982002.out) (Kd.R_base ho0) hb); have n1_ := Aside0.mk (Kd.R_elder' (by (with_reducible repeat (first | apply Kd.R_alloc | apply Kd.R_drewN | apply Kd.R_drew)); exact HO_988002.out) (Kd.R_base ho0) hb); have n2_ := Aside0.mk (Kd.R_elder' (by (with_reducible repeat (first | apply Kd.R_alloc | apply Kd.R_drewN | apply Kd.R_drew)); exact HO_998002.out) (Kd.R_base ho0) hb); have n3_ := Aside0.mk (Kd.R_elder' (by (with_reducible repeat (first | apply Kd.R_alloc | apply Kd.R_drewN | apply Kd.R_drew)); exact HO1021.out) (Kd.R_base ho0) hb); have n4_ := Aside0.mk (Kd.R_lower (Kd.R_new' (Kd.R_new' (Kd.R_new' (Kd.R_new' ho0 (Kd.R_lt (by (with_reducible repeat (first | apply Kd.R_alloc | apply Kd.R_drewN | apply Kd.R_drew)); exact HO_982002.out))) (Kd.R_lt (by (with_reducible repeat (first | apply Kd.R_alloc | apply Kd.R_drewN | apply Kd.R_drew)); exact HO_988002.out))) (Kd.R_lt (by (with_reducible repeat (first | apply Kd.R_alloc | apply Kd.R_drewN | apply Kd.R_drew)); exact HO_998002.out))) (Kd.R_lt (by (with_reducible repeat (first | apply Kd.R_alloc | apply Kd.R_drewN | apply Kd.R_drew)); exact HO1021.out))) (below_size (by repeat (first | (with_reducible first | exact HB.out | apply below_alloc | apply pw_below_drewN | apply below_drew1 | refine below_set ?_ GE965.out | refine below_set ?_ GE981.out | refine below_set ?_ GE987.out | refine below_set ?_ GE997.out) | exact HB.out)))); have n5_ := Aside0.mk (blk_below (g := gb965) (o := .cells #[.int .i64 a0_0, .int .i64 a0_1, .slice A0_2 l0_2.length c0_2] 36 (0, 0)) BK965.out hb); have n6_ := Aside0.mk (blk_below (g := gb981) (o := .cells #[.int .i64 t975, .int .i64 t976, .slice Ao29 t977.length co29] 26 (0, 0)) BK981.out hb); have n7_ := Aside0.mk (blk_below (g := gb987) (o := .cells #[.int .i64 t982, .int .i64 t983, .slice Ao36 t1010.length co36] 26 (0, 0)) BK987.out hb); have n8_ := Aside0.mk (blk_below (g := gb997) (o := .cells #[.int .i64 t991, .int .i64 t992, .slice Ao46 t993.length co46] 26 (0, 0)) BK997.out hb); have n9_ := Aside0.mk (below_step (by repeat (first | (with_reducible first | exact HB.out | apply below_alloc | apply pw_below_drewN | apply below_drew1 | refine below_set ?_ GE965.out | refine below_set ?_ GE981.out | refine below_set ?_ GE987.out | refine below_set ?_ GE997.out) | exact HB.out)) hb); clear HO_982002; clear HO_988002; clear HO_998002; clear HO1021; clear BK965; clear BK981; clear BK987; clear BK997; clear HB; have HO_982002 := n0_; have HO_988002 := n1_; have HO_998002 := n2_; have HO1021 := n3_; have HO1024 := n4_; have BK965 := n5_; have BK981 := n6_; have BK987 := n7_; have BK997 := n8_; have HB := n9_; clear n0_ n1_ n2_ n3_ n4_ n5_ n6_ n7_ n8_ n9_; (try clear hb); (try clear hb2); (try clear hk); (try clear hi); (try clear ho0); obtain ⟨Ao134, co134, eo134⟩ := Kd.R_slice HO1021.out; subst eo134; obtain ⟨Ao135, co135, eo135⟩ := Kd.R_slice HO1024.out; subst eo135) | ((with_reducible refine gate_callee (f := 35) rfl ?_); refine goesL_ (some 97) rfl rfl Try.func35 (by kernel_rfl) rfl #[.agg #[.int .i64 t1017, .int .i64 t1018, .slice Ao134 t1019.length co134], .slice Ao135 t1022.length co135] rfl (by (try simp only [List.map_toArray, List.map_cons, List.map_nil]); first | done | rfl | (simp only [List.length_drop, List.length_take]; rfl)) ?_; (with_reducible refine (impl_SpreadMean.calls kj73 t1017 t1018 _ _ t1019 _ _ t1022 t1025 t1026 t1027 t1030 _ ?side1 ?side2 ?side3 ?side4 A120.out).mono ?_); (case side1 => repeat (first | exact (Kd.R_reads' HO1021.out).2.2 | (with_reducible refine Kd.C_alloc ?_ _) | (with_reducible refine Kd.C_drewN ?_ _) | (with_reducible refine Kd.C_drew ?_))); (case side2 => exact (Kd.R_reads' HO1021.out).2.1); (case side3 => repeat (first | exact (Kd.R_reads' HO1024.out).2.2 | (with_reducible refine Kd.C_alloc ?_ _) | (with_reducible refine Kd.C_drewN ?_ _) | (with_reducible refine Kd.C_drew ?_))); (case side4 => exact (Kd.R_reads' HO1024.out).2.1); rintro e w136 ⟨v1028, rfl, ho0, hb⟩; refine ⟨_, rfl, ?_⟩; have n0_ := Aside0.mk (Kd.R_elder' (by (with_reducible repeat (first | apply Kd.R_alloc | apply Kd.R_drewN | apply Kd.R_drew)); exact HO_982002.out) (Kd.R_base ho0) hb); have n1_ := Aside0.mk (Kd.R_elder' (by (with_reducible repeat (first | apply Kd.R_alloc | apply Kd.R_drewN | apply Kd.R_drew)); exact HO_988002.out) (Kd.R_base ho0) hb); have n2_ := Aside0.mk (Kd.R_elder' (by (with_reducible repeat (first | apply Kd.R_alloc | apply Kd.R_drewN | apply Kd.R_drew)); exact HO_998002.out) (Kd.R_base ho0) hb); have n3_ := Aside0.mk (Kd.R_elder' (by (with_reducible repeat (first | apply Kd.R_alloc | apply Kd.R_drewN | apply Kd.R_drew)); exact HO1021.out) (Kd.R_base ho0) hb); have n4_ := Aside0.mk (Kd.R_elder' (by (with_reducible repeat (first | apply Kd.R_alloc | apply Kd.R_drewN | apply Kd.R_drew)); exact HO1024.out) (Kd.R_base ho0) hb); have n5_ := Aside0.mk (Kd.R_lower (Kd.R_new' (Kd.R_new' (Kd.R_new' (Kd.R_new' (Kd.R_new' ho0 (Kd.R_lt (by (with_reducible repeat (first | apply Kd.R_alloc | apply Kd.R_drewN | apply Kd.R_drew)); exact HO_982002.out))) (Kd.R_lt (by (with_reducible repeat (first | apply Kd.R_alloc | apply Kd.R_drewN | apply Kd.R_drew)); exact HO_988002.out))) (Kd.R_lt (by (with_reducible repeat (first | apply Kd.R_alloc | apply Kd.R_drewN | apply Kd.R_drew)); exact HO_998002.out))) (Kd.R_lt (by (with_reducible repeat (first | apply Kd.R_alloc | apply Kd.R_drewN | apply Kd.R_drew)); exact HO1021.out))) (Kd.R_lt (by (with_reducible repeat (first | apply Kd.R_alloc | apply Kd.R_drewN | apply Kd.R_drew)); exact HO1024.out))) (below_size (by repeat (first | (with_reducible first | exact HB.out | apply below_alloc | apply pw_below_drewN | apply below_drew1 | refine below_set ?_ GE965.out | refine below_set ?_ GE981.out | refine below_set ?_ GE987.out | refine below_set ?_ GE997.out) | exact HB.out)))); have n6_ := Aside0.mk (blk_below (g := gb965) (o := .cells #[.int .i64 a0_0, .int .i64 a0_1, .slice A0_2 l0_2.length c0_2] 36 (0, 0)) BK965.out hb); have n7_ := Aside0.mk (blk_below (g := gb981) (o := .cells #[.int .i64 t975, .int .i64 t976, .slice Ao29 t977.length co29] 26 (0, 0)) BK981.out hb); have n8_ := Aside0.mk (blk_below (g := gb987) (o := .cells #[.int .i64 t982, .int .i64 t983, .slice Ao36 t1010.length co36] 26 (0, 0)) BK987.out hb); have n9_ := Aside0.mk (blk_below (g := gb997) (o := .cells #[.int .i64 t991, .int .i64 t992, .slice Ao46 t993.length co46] 26 (0, 0)) BK997.out hb); have n10_ := Aside0.mk (below_step (by repeat (first | (with_reducible first | exact HB.out | apply below_alloc | apply pw_below_drewN | apply below_drew1 | refine below_set ?_ GE965.out | refine below_set ?_ GE981.out | refine below_set ?_ GE987.out | refine below_set ?_ GE997.out) | exact HB.out)) hb); clear HO_982002; clear HO_988002; clear HO_998002; clear HO1021; clear HO1024; clear BK965; clear BK981; clear BK987; clear BK997; clear HB; have HO_982002 := n0_; have HO_988002 := n1_; have HO_998002 := n2_; have HO1021 := n3_; have HO1024 := n4_; have HO1029 := n5_; have BK965 := n6_; have BK981 := n7_; have BK987 := n8_; have BK997 := n9_; have HB := n10_; clear n0_ n1_ n2_ n3_ n4_ n5_ n6_ n7_ n8_ n9_ n10_; (try clear hb); (try clear hb2); (try clear hk); (try clear hi); (try clear ho0)) | ((with_reducible refine gate_dst (N := 15) rfl ?_); refine box_event ?hg (N := 15) ?hd (cs := #[.int .i64 0, .int .i64 0, .slice none 0 0]) (t := 26) ?hr ?_; (case hd => rfl); (case hg => rfl); (case hr => first | (go_simp; done) | (go_simp; rfl)); intro gb1031 hg w137 hbox hb; have n0_ := Aside0.mk (Kd.R_below (by (with_reducible repeat (first | apply Kd.R_alloc | apply Kd.R_drewN | apply Kd.R_drew)); exact HO_982002.out) hb); have n1_ := Aside0.mk (Kd.R_below (by (with_reducible repeat (first | apply Kd.R_alloc | apply Kd.R_drewN | apply Kd.R_drew)); exact HO_988002.out) hb); have n2_ := Aside0.mk (Kd.R_below (by (with_reducible repeat (first | apply Kd.R_alloc | apply Kd.R_drewN | apply Kd.R_drew)); exact HO_998002.out) hb); have n3_ := Aside0.mk (Kd.R_below (by (with_reducible repeat (first | apply Kd.R_alloc | apply Kd.R_drewN | apply Kd.R_drew)); exact HO1021.out) hb); have n4_ := Aside0.mk (Kd.R_below (by (with_reducible repeat (first | apply Kd.R_alloc | apply Kd.R_drewN | apply Kd.R_drew)); exact HO1024.out) hb); have n5_ := Aside0.mk (Kd.R_below (by (with_reducible repeat (first | apply Kd.R_alloc | apply Kd.R_drewN | apply Kd.R_drew)); exact HO1029.out) hb); have n6_ := Aside0.mk (blk_below (g := gb965) (o := .cells #[.int .i64 a0_0, .int .i64 a0_1, .slice A0_2 l0_2.length c0_2] 36 (0, 0)) BK965.out hb); have n7_ := Aside0.mk (blk_below (g := gb981) (o := .cells #[.int .i64 t975, .int .i64 t976, .slice Ao29 t977.length co29] 26 (0, 0)) BK981.out hb); have n8_ := Aside0.mk (blk_below (g := gb987) (o := .cells #[.int .i64 t982, .int .i64 t983, .slice Ao36 t1010.length co36] 26 (0, 0)) BK987.out hb); have n9_ := Aside0.mk (blk_below (g := gb997) (o := .cells #[.int .i64 t991, .int .i64 t992, .slice Ao46 t993.length co46] 26 (0, 0)) BK997.out hb); have n10_ := Aside0.mk (below_step (by repeat (first | (with_reducible first | exact HB.out | apply below_alloc | apply pw_below_drewN | apply below_drew1 | refine below_set ?_ GE965.out | refine below_set ?_ GE981.out | refine below_set ?_ GE987.out | refine below_set ?_ GE997.out) | exact HB.out)) hb); have n11_ := Aside0.mk (hbox); have n12_ := Aside0.mk ((by rw [hg]; exact (below_size (by repeat (first | (with_reducible first | exact HB.out | apply below_alloc | apply pw_below_drewN | apply below_drew1 | refine below_set ?_ GE965.out | refine below_set ?_ GE981.out | refine below_set ?_ GE987.out | refine below_set ?_ GE997.out) | exact HB.out))) : w.heap.size ≤ gb1031)); have n13_ := Aside0.mk ((by rw [hg]; exact (below_size (by repeat (first | (with_reducible first | exact HB.out | apply below_alloc | apply pw_below_drewN | apply below_drew1 | refine below_set ?_ GE965.out | refine below_set ?_ GE981.out | refine below_set ?_ GE987.out | refine below_set ?_ GE997.out) | exact HB.out))) : w.heap.size ≤ gb1031)); have n14_ := Aside0.mk ((by rw [hg]; exact Nat.ne_of_lt (blk_lt (g := gb965) (o := .cells #[.int .i64 a0_0, .int .i64 a0_1, .slice A0_2 l0_2.length c0_2] 36 (0, 0)) BK965.out) : gb965 ≠ gb1031)); have n15_ := Aside0.mk ((by rw [hg]; exact Nat.ne_of_gt (blk_lt (g := gb965) (o := .cells #[.int .i64 a0_0, .int .i64 a0_1, .slice A0_2 l0_2.length c0_2] 36 (0, 0)) BK965.out) : gb1031 ≠ gb965)); have n16_ := Aside0.mk ((by rw [hg]; exact Nat.ne_of_lt (blk_lt (g := gb981) (o := .cells #[.int .i64 t975, .int .i64 t976, .slice Ao29 t977.length co29] 26 (0, 0)) BK981.out) : gb981 ≠ gb1031)); have n17_ := Aside0.mk ((by rw [hg]; exact Nat.ne_of_gt (blk_lt (g := gb981) (o := .cells #[.int .i64 t975, .int .i64 t976, .slice Ao29 t977.length co29] 26 (0, 0)) BK981.out) : gb1031 ≠ gb981)); have n18_ := Aside0.mk ((by rw [hg]; exact Nat.ne_of_lt (blk_lt (g := gb987) (o := .cells #[.int .i64 t982, .int .i64 t983, .slice Ao36 t1010.length co36] 26 (0, 0)) BK987.out) : gb987 ≠ gb1031)); have n19_ := Aside0.mk ((by rw [hg]; exact Nat.ne_of_gt (blk_lt (g := gb987) (o := .cells #[.int .i64 t982, .int .i64 t983, .slice Ao36 t1010.length co36] 26 (0, 0)) BK987.out) : gb1031 ≠ gb987)); have n20_ := Aside0.mk ((by rw [hg]; exact Nat.ne_of_lt (blk_lt (g := gb997) (o := .cells #[.int .i64 t991, .int .i64 t992, .slice Ao46 t993.length co46] 26 (0, 0)) BK997.out) : gb997 ≠ gb1031)); have n21_ := Aside0.mk ((by rw [hg]; exact Nat.ne_of_gt (blk_lt (g := gb997) (o := .cells #[.int .i64 t991, .int .i64 t992, .slice Ao46 t993.length co46] 26 (0, 0)) BK997.out) : gb1031 ≠ gb997)); clear HO_982002; clear HO_988002; clear HO_998002; clear HO1021; clear HO1024; clear HO1029; clear BK965; clear BK981; clear BK987; clear BK997; clear HB; have HO_982002 := n0_; have HO_988002 := n1_; have HO_998002 := n2_; have HO1021 := n3_; have HO1024 := n4_; have HO1029 := n5_; have BK965 := n6_; have BK981 := n7_; have BK987 := n8_; have BK997 := n9_; have HB := n10_; have BK1031 := n11_; have GW1031 := n12_; have GE1031 := n13_; have NB965_1031 := n14_; have NB1031_965 := n15_; have NB981_1031 := n16_; have NB1031_981 := n17_; have NB987_1031 := n18_; have NB1031_987 := n19_; have NB997_1031 := n20_; have NB1031_997 := n21_; clear n0_ n1_ n2_ n3_ n4_ n5_ n6_ n7_ n8_ n9_ n10_ n11_ n12_ n13_ n14_ n15_ n16_ n17_ n18_ n19_ n20_ n21_; clear hb hbox hg; have hnb138 := NB1031_965.out; have hnc138 := NB965_1031.out; have hnb139 := NB1031_981.out; have hnc139 := NB981_1031.out; have hnb140 := NB1031_987.out; have hnc140 := NB987_1031.out; have hnb141 := NB1031_997.out; have hnc141 := NB997_1031.out; have hcz142_0 : w137.cell? ⟨gb1031, 0, none⟩ = some (.int .i64 0) := (blk_cell BK1031.out 0).trans rfl; have hcz142_1 : w137.cell? ⟨gb1031, 1, none⟩ = some (.int .i64 0) := (blk_cell BK1031.out 1).trans rfl; have hcz142_2 : w137.cell? ⟨gb1031, 2, none⟩ = some (.slice none 0 0) := (blk_cell BK1031.out 2).trans rfl; have hfz142_0 := blk_frozen BK1031.out 0; have hfz142_1 := blk_frozen BK1031.out 1; have hfz142_2 := blk_frozen BK1031.out 2; obtain ⟨Ao143, co143, eo143⟩ := Kd.R_slice HO1029.out; subst eo143))
                              (try simp only [Act.put, List.setIfInBounds_toArray, List.set_cons_zero, List.set_cons_succ])
                              go_cut [108] (fun v108 wc => ∃ (kq : Nat) (x108_120 : Bool), v108 = .bool x108_120 ∧ Aside0 (laws_FnExactSpreadMean.j2 kq t1014 x108_120 t991 t992 t1015 = some r) ∧ Aside0 (kq ≤ kj73) ∧ Aside0 (Kd.R (Kd.int .i64) 3 wc w.heap.size (fun k_ => some k_ ≠ ((.slice Ao36 t1010.length co36) : Value).ownBlock ∧ some k_ ≠ ((.slice Ao46 t993.length co46) : Value).ownBlock ∧ some k_ ≠ ((.slice Ao143 t1027.length co143) : Value).ownBlock) (.slice Ao29 t977.length co29) t977) ∧ Aside0 (Kd.R (Kd.int .i64) 3 wc w.heap.size (fun k_ => some k_ ≠ ((.slice Ao29 t977.length co29) : Value).ownBlock ∧ some k_ ≠ ((.slice Ao46 t993.length co46) : Value).ownBlock ∧ some k_ ≠ ((.slice Ao143 t1027.length co143) : Value).ownBlock) (.slice Ao36 t1010.length co36) t1010) ∧ Aside0 (Kd.R (Kd.int .i64) 3 wc w.heap.size (fun k_ => some k_ ≠ ((.slice Ao29 t977.length co29) : Value).ownBlock ∧ some k_ ≠ ((.slice Ao36 t1010.length co36) : Value).ownBlock ∧ some k_ ≠ ((.slice Ao143 t1027.length co143) : Value).ownBlock) (.slice Ao46 t993.length co46) t1015) ∧ Aside0 (Kd.R (Kd.int .i64) 3 wc w.heap.size (fun k_ => some k_ ≠ ((.slice Ao29 t977.length co29) : Value).ownBlock ∧ some k_ ≠ ((.slice Ao36 t1010.length co36) : Value).ownBlock ∧ some k_ ≠ ((.slice Ao46 t993.length co46) : Value).ownBlock) (.slice Ao143 t1027.length co143) t1027) ∧ Aside0 (wc.heap[gb965]? = some (.cells #[.int .i64 a0_0, .int .i64 a0_1, (.slice A0_2 l0_2.length c0_2)] 36 (0, 0))) ∧ Aside0 (wc.heap[gb981]? = some (.cells #[.int .i64 t975, .int .i64 t976, (.slice Ao29 t977.length co29)] 26 (0, 0))) ∧ Aside0 (wc.heap[gb987]? = some (.cells #[.int .i64 t982, .int .i64 t983, (.slice Ao36 t1010.length co36)] 26 (0, 0))) ∧ Aside0 (wc.heap[gb997]? = some (.cells #[.int .i64 t991, .int .i64 t992, (.slice Ao46 t993.length co46)] 26 (0, 0))) ∧ Aside0 (wc.heap[gb1031]? = some (.cells #[.int .i64 t1025, .int .i64 t1026, (.slice Ao143 t1027.length co143)] 26 (0, 0))) ∧ Aside0 (Below w.heap.size w wc))
                              case first =>
                                as_aux_lemma =>
                                  have H := HC121.out
                                  clear HC121
                                  replace H := Option.bind_eq_some_iff.mp H
                                  obtain ⟨t1032, A1440, H⟩ := H
                                  replace H : (if t1032 = true then (laws_FnExactSpreadMean.j2 kj73 t1014 (t1030 != t980) t991 t992 t1015) else (laws_FnExactSpreadMean.j2 kj73 t1014 true t991 t992 t1015)) = some r := H
                                  have A144 := Aside0.mk A1440
                                  clear A1440
                                  by_cases c145 : t1032 = true
                                  · subst c145
                                    have H1 : (laws_FnExactSpreadMean.j2 kj73 t1014 (t1030 != t980) t991 t992 t1015) = some r := by rw [if_pos rfl] at H; exact H
                                    clear H
                                    have H := H1
                                    clear H1
                                    have H' := Aside0.mk H
                                    clear H
                                    have hnb146 := NB1031_965.out
                                    have hnc146 := NB965_1031.out
                                    have hnb147 := NB1031_981.out
                                    have hnc147 := NB981_1031.out
                                    have hnb148 := NB1031_987.out
                                    have hnc148 := NB987_1031.out
                                    have hnb149 := NB1031_997.out
                                    have hnc149 := NB997_1031.out
                                    have hcz150_0 : w137.cell? ⟨gb1031, 0, none⟩ = some (.int .i64 0) := (blk_cell BK1031.out 0).trans rfl
                                    have hcz150_1 : w137.cell? ⟨gb1031, 1, none⟩ = some (.int .i64 0) := (blk_cell BK1031.out 1).trans rfl
                                    have hcz150_2 : w137.cell? ⟨gb1031, 2, none⟩ = some (.slice none 0 0) := (blk_cell BK1031.out 2).trans rfl
                                    have hfz150_0 := blk_frozen BK1031.out 0
                                    have hfz150_1 := blk_frozen BK1031.out 1
                                    have hfz150_2 := blk_frozen BK1031.out 2
                                    have hnb151 := NB981_965.out
                                    have hnc151 := NB965_981.out
                                    have hnb152 := NB981_987.out
                                    have hnc152 := NB987_981.out
                                    have hnb153 := NB981_997.out
                                    have hnc153 := NB997_981.out
                                    have hcz154_0 : w137.cell? ⟨gb981, 0, none⟩ = some (.int .i64 t975) := (blk_cell BK981.out 0).trans rfl
                                    have hcz154_1 : w137.cell? ⟨gb981, 1, none⟩ = some (.int .i64 t976) := (blk_cell BK981.out 1).trans rfl
                                    have hcz154_2 : w137.cell? ⟨gb981, 2, none⟩ = some (.slice Ao29 t977.length co29) := (blk_cell BK981.out 2).trans rfl
                                    have hfz154_0 := blk_frozen BK981.out 0
                                    have hfz154_1 := blk_frozen BK981.out 1
                                    have hfz154_2 := blk_frozen BK981.out 2
                                    go_wp2_with (first | ((with_reducible refine gate_callee (f := 25) rfl ?_); refine goesL_ (some 102) rfl rfl Try.func25 (by kernel_rfl) rfl #[.agg #[.int .i64 t1025, .int .i64 t1026, .slice Ao143 t1027.length co143], .agg #[.int .i64 t975, .int .i64 t976, .slice Ao29 t977.length co29]] rfl (by (try simp only [List.map_toArray, List.map_cons, List.map_nil]); first | done | rfl | (simp only [List.length_drop, List.length_take]; rfl)) ?_; (with_reducible refine (laws_eqField.calls kj73 t1025 t1026 _ _ t1027 t975 t976 _ _ t977 true _ ?side1 ?side2 ?side3 ?side4 A144.out).mono ?_); (case side1 => refine (Kd.R_reads' (e := 3) (base := w.heap.size) (ok := fun k_ => (((((True ∧ some k_ ≠ (.slice Ao29 t977.length co29 : Value).ownBlock) ∧ some k_ ≠ (.slice Ao36 t1010.length co36 : Value).ownBlock) ∧ some k_ ≠ (.slice Ao46 t993.length co46 : Value).ownBlock) ∧ some k_ ≠ (.slice Ao134 t1019.length co134 : Value).ownBlock) ∧ some k_ ≠ (.slice Ao135 t1022.length co135 : Value).ownBlock)) (n := t1027.length) (c := co143) ?_).2.2; exact (by (with_reducible repeat (first | apply Kd.R_alloc | apply Kd.R_drewN | apply Kd.R_drew)); exact (Kd.R_mono (Kd.R_far (p := ⟨gb1031, 2, none⟩) (Kd.R_far (p := ⟨gb1031, 1, none⟩) (Kd.R_far (p := ⟨gb1031, 0, none⟩) (Kd.R_types HO1029.out BK1031.out (by decide)) (fun _ hk => hk.2) (.int .i64 t1025)) (fun _ hk => hk.2) (.int .i64 t1026)) (fun _ hk => hk.2) (.slice Ao143 t1027.length co143)) (fun _ h_ => h_.1)))); (case side2 => exact (Kd.R_reads' HO1029.out).2.1); (case side3 => refine (Kd.R_reads' (e := 3) (base := w.heap.size) (ok := fun k_ => ((((some k_ ≠ (.slice Ao36 t1010.length co36 : Value).ownBlock ∧ some k_ ≠ (.slice Ao46 t993.length co46 : Value).ownBlock) ∧ some k_ ≠ (.slice Ao134 t1019.length co134 : Value).ownBlock) ∧ some k_ ≠ (.slice Ao135 t1022.length co135 : Value).ownBlock) ∧ some k_ ≠ (.slice Ao143 t1027.length co143 : Value).ownBlock)) (n := t977.length) (c := co29) ?_).2.2; exact (by (with_reducible repeat (first | apply Kd.R_alloc | apply Kd.R_drewN | apply Kd.R_drew)); exact (Kd.R_mono (Kd.R_far (p := ⟨gb1031, 2, none⟩) (Kd.R_far (p := ⟨gb1031, 1, none⟩) (Kd.R_far (p := ⟨gb1031, 0, none⟩) (Kd.R_types HO_982002.out BK1031.out (by decide)) (fun _ hk => hk.2) (.int .i64 t1025)) (fun _ hk => hk.2) (.int .i64 t1026)) (fun _ hk => hk.2) (.slice Ao143 t1027.length co143)) (fun _ h_ => h_.1)))); (case side4 => exact (Kd.R_reads' HO_982002.out).2.1); rintro e w155 ⟨rfl, hb⟩; refine ⟨_, rfl, ?_⟩; have n0_ := Aside0.mk (Kd.R_below (by (with_reducible repeat (first | apply Kd.R_alloc | apply Kd.R_drewN | apply Kd.R_drew)); exact (Kd.R_mono (Kd.R_far (p := ⟨gb1031, 2, none⟩) (Kd.R_far (p := ⟨gb1031, 1, none⟩) (Kd.R_far (p := ⟨gb1031, 0, none⟩) (Kd.R_types HO_982002.out BK1031.out (by decide)) (fun _ hk => hk.2) (.int .i64 t1025)) (fun _ hk => hk.2) (.int .i64 t1026)) (fun _ hk => hk.2) (.slice Ao143 t1027.length co143)) (fun _ h_ => h_.1))) hb); have n1_ := Aside0.mk (Kd.R_below (by (with_reducible repeat (first | apply Kd.R_alloc | apply Kd.R_drewN | apply Kd.R_drew)); exact (Kd.R_mono (Kd.R_far (p := ⟨gb1031, 2, none⟩) (Kd.R_far (p := ⟨gb1031, 1, none⟩) (Kd.R_far (p := ⟨gb1031, 0, none⟩) (Kd.R_types HO_988002.out BK1031.out (by decide)) (fun _ hk => hk.2) (.int .i64 t1025)) (fun _ hk => hk.2) (.int .i64 t1026)) (fun _ hk => hk.2) (.slice Ao143 t1027.length co143)) (fun _ h_ => h_.1))) hb); have n2_ := Aside0.mk (Kd.R_below (by (with_reducible repeat (first | apply Kd.R_alloc | apply Kd.R_drewN | apply Kd.R_drew)); exact (Kd.R_mono (Kd.R_far (p := ⟨gb1031, 2, none⟩) (Kd.R_far (p := ⟨gb1031, 1, none⟩) (Kd.R_far (p := ⟨gb1031, 0, none⟩) (Kd.R_types HO_998002.out BK1031.out (by decide)) (fun _ hk => hk.2) (.int .i64 t1025)) (fun _ hk => hk.2) (.int .i64 t1026)) (fun _ hk => hk.2) (.slice Ao143 t1027.length co143)) (fun _ h_ => h_.1))) hb); have n3_ := Aside0.mk (Kd.R_below (by (with_reducible repeat (first | apply Kd.R_alloc | apply Kd.R_drewN | apply Kd.R_drew)); exact (Kd.R_mono (Kd.R_far (p := ⟨gb1031, 2, none⟩) (Kd.R_far (p := ⟨gb1031, 1, none⟩) (Kd.R_far (p := ⟨gb1031, 0, none⟩) (Kd.R_types HO1021.out BK1031.out (by decide)) (fun _ hk => hk.2) (.int .i64 t1025)) (fun _ hk => hk.2) (.int .i64 t1026)) (fun _ hk => hk.2) (.slice Ao143 t1027.length co143)) (fun _ h_ => h_.1))) hb); have n4_ := Aside0.mk (Kd.R_below (by (with_reducible repeat (first | apply Kd.R_alloc | apply Kd.R_drewN | apply Kd.R_drew)); exact (Kd.R_mono (Kd.R_far (p := ⟨gb1031, 2, none⟩) (Kd.R_far (p := ⟨gb1031, 1, none⟩) (Kd.R_far (p := ⟨gb1031, 0, none⟩) (Kd.R_types HO1024.out BK1031.out (by decide)) (fun _ hk => hk.2) (.int .i64 t1025)) (fun _ hk => hk.2) (.int .i64 t1026)) (fun _ hk => hk.2) (.slice Ao143 t1027.length co143)) (fun _ h_ => h_.1))) hb); have n5_ := Aside0.mk (Kd.R_below (by (with_reducible repeat (first | apply Kd.R_alloc | apply Kd.R_drewN | apply Kd.R_drew)); exact (Kd.R_mono (Kd.R_far (p := ⟨gb1031, 2, none⟩) (Kd.R_far (p := ⟨gb1031, 1, none⟩) (Kd.R_far (p := ⟨gb1031, 0, none⟩) (Kd.R_types HO1029.out BK1031.out (by decide)) (fun _ hk => hk.2) (.int .i64 t1025)) (fun _ hk => hk.2) (.int .i64 t1026)) (fun _ hk => hk.2) (.slice Ao143 t1027.length co143)) (fun _ h_ => h_.1))) hb); have n6_ := Aside0.mk (blk_below (g := gb965) (o := .cells #[.int .i64 a0_0, .int .i64 a0_1, .slice A0_2 l0_2.length c0_2] 36 (0, 0)) (by (with_reducible repeat (first | refine blk_drewN ?_ _ | refine blk_drew ?_ | refine blk_alloc ?_ _)); refine blk_far ?_ NB965_1031.out _; (with_reducible repeat (first | refine blk_drewN ?_ _ | refine blk_drew ?_ | refine blk_alloc ?_ _)); refine blk_far ?_ NB965_1031.out _; (with_reducible repeat (first | refine blk_drewN ?_ _ | refine blk_drew ?_ | refine blk_alloc ?_ _)); refine blk_far ?_ NB965_1031.out _; (with_reducible repeat (first | refine blk_drewN ?_ _ | refine blk_drew ?_ | refine blk_alloc ?_ _)); exact BK965.out) hb); have n7_ := Aside0.mk (blk_below (g := gb981) (o := .cells #[.int .i64 t975, .int .i64 t976, .slice Ao29 t977.length co29] 26 (0, 0)) (by (with_reducible repeat (first | refine blk_drewN ?_ _ | refine blk_drew ?_ | refine blk_alloc ?_ _)); refine blk_far ?_ NB981_1031.out _; (with_reducible repeat (first | refine blk_drewN ?_ _ | refine blk_drew ?_ | refine blk_alloc ?_ _)); refine blk_far ?_ NB981_1031.out _; (with_reducible repeat (first | refine blk_drewN ?_ _ | refine blk_drew ?_ | refine blk_alloc ?_ _)); refine blk_far ?_ NB981_1031.out _; (with_reducible repeat (first | refine blk_drewN ?_ _ | refine blk_drew ?_ | refine blk_alloc ?_ _)); exact BK981.out) hb); have n8_ := Aside0.mk (blk_below (g := gb987) (o := .cells #[.int .i64 t982, .int .i64 t983, .slice Ao36 t1010.length co36] 26 (0, 0)) (by (with_reducible repeat (first | refine blk_drewN ?_ _ | refine blk_drew ?_ | refine blk_alloc ?_ _)); refine blk_far ?_ NB987_1031.out _; (with_reducible repeat (first | refine blk_drewN ?_ _ | refine blk_drew ?_ | refine blk_alloc ?_ _)); refine blk_far ?_ NB987_1031.out _; (with_reducible repeat (first | refine blk_drewN ?_ _ | refine blk_drew ?_ | refine blk_alloc ?_ _)); refine blk_far ?_ NB987_1031.out _; (with_reducible repeat (first | refine blk_drewN ?_ _ | refine blk_drew ?_ | refine blk_alloc ?_ _)); exact BK987.out) hb); have n9_ := Aside0.mk (blk_below (g := gb997) (o := .cells #[.int .i64 t991, .int .i64 t992, .slice Ao46 t993.length co46] 26 (0, 0)) (by (with_reducible repeat (first | refine blk_drewN ?_ _ | refine blk_drew ?_ | refine blk_alloc ?_ _)); refine blk_far ?_ NB997_1031.out _; (with_reducible repeat (first | refine blk_drewN ?_ _ | refine blk_drew ?_ | refine blk_alloc ?_ _)); refine blk_far ?_ NB997_1031.out _; (with_reducible repeat (first | refine blk_drewN ?_ _ | refine blk_drew ?_ | refine blk_alloc ?_ _)); refine blk_far ?_ NB997_1031.out _; (with_reducible repeat (first | refine blk_drewN ?_ _ | refine blk_drew ?_ | refine blk_alloc ?_ _)); exact BK997.out) hb); have n10_ := Aside0.mk (blk_below (g := gb1031) (o := .cells #[.int .i64 t1025, .int .i64 t1026, .slice Ao143 t1027.length co143] 26 (0, 0)) (by (with_reducible repeat (first | refine blk_drewN ?_ _ | refine blk_drew ?_ | refine blk_alloc ?_ _)); refine blk_put (cs := #[.int .i64 t1025, .int .i64 t1026, .slice none 0 0]) ?_ 2 _ rfl; (with_reducible repeat (first | refine blk_drewN ?_ _ | refine blk_drew ?_ | refine blk_alloc ?_ _)); refine blk_put (cs := #[.int .i64 t1025, .int .i64 0, .slice none 0 0]) ?_ 1 _ rfl; (with_reducible repeat (first | refine blk_drewN ?_ _ | refine blk_drew ?_ | refine blk_alloc ?_ _)); refine blk_put (cs := #[.int .i64 0, .int .i64 0, .slice none 0 0]) ?_ 0 _ rfl; (with_reducible repeat (first | refine blk_drewN ?_ _ | refine blk_drew ?_ | refine blk_alloc ?_ _)); exact BK1031.out) hb); have n11_ := Aside0.mk (below_step (by repeat (first | (with_reducible first | exact HB.out | apply below_alloc | apply pw_below_drewN | apply below_drew1 | refine below_set ?_ GE965.out | refine below_set ?_ GE981.out | refine below_set ?_ GE987.out | refine below_set ?_ GE997.out | refine below_set ?_ GE1031.out) | exact HB.out)) hb); clear HO_982002; clear HO_988002; clear HO_998002; clear HO1021; clear HO1024; clear HO1029; clear BK965; clear BK981; clear BK987; clear BK997; clear BK1031; clear HB; have HO_982002 := n0_; have HO_988002 := n1_; have HO_998002 := n2_; have HO1021 := n3_; have HO1024 := n4_; have HO1029 := n5_; have BK965 := n6_; have BK981 := n7_; have BK987 := n8_; have BK997 := n9_; have BK1031 := n10_; have HB := n11_; clear n0_ n1_ n2_ n3_ n4_ n5_ n6_ n7_ n8_ n9_ n10_ n11_; (try clear hb); (try clear hb2); (try clear hk); (try clear hi)))
                                    go_meet
                                    case rel => exact ⟨_, ((t1030 != t980)), (by first | rfl | (simp; done) | (simp [*]; done)), H', ⟨by have := HJ15.out; have := HJ73.out; first | omega | exact Nat.le_refl _⟩, ⟨by (try simp only [hl988002_73]); (with_reducible repeat (first | apply Kd.R_alloc | apply Kd.R_drewN | apply Kd.R_drew)); exact Kd.R_mono HO_982002.out (fun _ hk => ⟨hk.1.1.1.1, ⟨hk.1.1.1.2, hk.2⟩⟩)⟩, ⟨by (try simp only [hl988002_73]); (with_reducible repeat (first | apply Kd.R_alloc | apply Kd.R_drewN | apply Kd.R_drew)); exact Kd.R_mono HO_988002.out (fun _ hk => ⟨hk.1.1.1.1, ⟨hk.1.1.1.2, hk.2⟩⟩)⟩, ⟨by (try simp only [hl988002_73]); (with_reducible repeat (first | apply Kd.R_alloc | apply Kd.R_drewN | apply Kd.R_drew)); exact Kd.R_mono HO_998002.out (fun _ hk => ⟨hk.1.1.1.1, ⟨hk.1.1.1.2, hk.2⟩⟩)⟩, ⟨by (try simp only [hl988002_73]); (with_reducible repeat (first | apply Kd.R_alloc | apply Kd.R_drewN | apply Kd.R_drew)); exact Kd.R_mono HO1029.out (fun _ hk => ⟨hk.1.1.1.1.2, ⟨hk.1.1.1.2, hk.1.1.2⟩⟩)⟩, ⟨by (try simp only [hl988002_73]); (with_reducible repeat (first | refine blk_drewN ?_ _ | refine blk_drew ?_ | refine blk_alloc ?_ _)); exact BK965.out⟩, ⟨by (try simp only [hl988002_73]); (with_reducible repeat (first | refine blk_drewN ?_ _ | refine blk_drew ?_ | refine blk_alloc ?_ _)); exact BK981.out⟩, ⟨by (try simp only [hl988002_73]); (with_reducible repeat (first | refine blk_drewN ?_ _ | refine blk_drew ?_ | refine blk_alloc ?_ _)); exact BK987.out⟩, ⟨by (try simp only [hl988002_73]); (with_reducible repeat (first | refine blk_drewN ?_ _ | refine blk_drew ?_ | refine blk_alloc ?_ _)); exact BK997.out⟩, ⟨by (try simp only [hl988002_73]); (with_reducible repeat (first | refine blk_drewN ?_ _ | refine blk_drew ?_ | refine blk_alloc ?_ _)); exact BK1031.out⟩, ⟨by repeat (first | (with_reducible first | exact HB.out | apply below_alloc | apply pw_below_drewN | apply below_drew1 | refine below_set ?_ GE965.out | refine below_set ?_ GE981.out | refine below_set ?_ GE987.out | refine below_set ?_ GE997.out | refine below_set ?_ GE1031.out) | exact HB.out)⟩⟩
                                  · replace c145 := Bool.eq_false_iff.mpr c145
                                    subst c145
                                    have H1 : (laws_FnExactSpreadMean.j2 kj73 t1014 true t991 t992 t1015) = some r := by rw [if_neg (show ¬ (false = true) by decide)] at H; exact H
                                    clear H
                                    have H := H1
                                    clear H1
                                    have H' := Aside0.mk H
                                    clear H
                                    have hnb156 := NB1031_965.out
                                    have hnc156 := NB965_1031.out
                                    have hnb157 := NB1031_981.out
                                    have hnc157 := NB981_1031.out
                                    have hnb158 := NB1031_987.out
                                    have hnc158 := NB987_1031.out
                                    have hnb159 := NB1031_997.out
                                    have hnc159 := NB997_1031.out
                                    have hcz160_0 : w137.cell? ⟨gb1031, 0, none⟩ = some (.int .i64 0) := (blk_cell BK1031.out 0).trans rfl
                                    have hcz160_1 : w137.cell? ⟨gb1031, 1, none⟩ = some (.int .i64 0) := (blk_cell BK1031.out 1).trans rfl
                                    have hcz160_2 : w137.cell? ⟨gb1031, 2, none⟩ = some (.slice none 0 0) := (blk_cell BK1031.out 2).trans rfl
                                    have hfz160_0 := blk_frozen BK1031.out 0
                                    have hfz160_1 := blk_frozen BK1031.out 1
                                    have hfz160_2 := blk_frozen BK1031.out 2
                                    have hnb161 := NB981_965.out
                                    have hnc161 := NB965_981.out
                                    have hnb162 := NB981_987.out
                                    have hnc162 := NB987_981.out
                                    have hnb163 := NB981_997.out
                                    have hnc163 := NB997_981.out
                                    have hcz164_0 : w137.cell? ⟨gb981, 0, none⟩ = some (.int .i64 t975) := (blk_cell BK981.out 0).trans rfl
                                    have hcz164_1 : w137.cell? ⟨gb981, 1, none⟩ = some (.int .i64 t976) := (blk_cell BK981.out 1).trans rfl
                                    have hcz164_2 : w137.cell? ⟨gb981, 2, none⟩ = some (.slice Ao29 t977.length co29) := (blk_cell BK981.out 2).trans rfl
                                    have hfz164_0 := blk_frozen BK981.out 0
                                    have hfz164_1 := blk_frozen BK981.out 1
                                    have hfz164_2 := blk_frozen BK981.out 2
                                    go_wp2_with (first | ((with_reducible refine gate_callee (f := 25) rfl ?_); refine goesL_ (some 102) rfl rfl Try.func25 (by kernel_rfl) rfl #[.agg #[.int .i64 t1025, .int .i64 t1026, .slice Ao143 t1027.length co143], .agg #[.int .i64 t975, .int .i64 t976, .slice Ao29 t977.length co29]] rfl (by (try simp only [List.map_toArray, List.map_cons, List.map_nil]); first | done | rfl | (simp only [List.length_drop, List.length_take]; rfl)) ?_; (with_reducible refine (laws_eqField.calls kj73 t1025 t1026 _ _ t1027 t975 t976 _ _ t977 false _ ?side1 ?side2 ?side3 ?side4 A144.out).mono ?_); (case side1 => refine (Kd.R_reads' (e := 3) (base := w.heap.size) (ok := fun k_ => (((((True ∧ some k_ ≠ (.slice Ao29 t977.length co29 : Value).ownBlock) ∧ some k_ ≠ (.slice Ao36 t1010.length co36 : Value).ownBlock) ∧ some k_ ≠ (.slice Ao46 t993.length co46 : Value).ownBlock) ∧ some k_ ≠ (.slice Ao134 t1019.length co134 : Value).ownBlock) ∧ some k_ ≠ (.slice Ao135 t1022.length co135 : Value).ownBlock)) (n := t1027.length) (c := co143) ?_).2.2; exact (by (with_reducible repeat (first | apply Kd.R_alloc | apply Kd.R_drewN | apply Kd.R_drew)); exact (Kd.R_mono (Kd.R_far (p := ⟨gb1031, 2, none⟩) (Kd.R_far (p := ⟨gb1031, 1, none⟩) (Kd.R_far (p := ⟨gb1031, 0, none⟩) (Kd.R_types HO1029.out BK1031.out (by decide)) (fun _ hk => hk.2) (.int .i64 t1025)) (fun _ hk => hk.2) (.int .i64 t1026)) (fun _ hk => hk.2) (.slice Ao143 t1027.length co143)) (fun _ h_ => h_.1)))); (case side2 => exact (Kd.R_reads' HO1029.out).2.1); (case side3 => refine (Kd.R_reads' (e := 3) (base := w.heap.size) (ok := fun k_ => ((((some k_ ≠ (.slice Ao36 t1010.length co36 : Value).ownBlock ∧ some k_ ≠ (.slice Ao46 t993.length co46 : Value).ownBlock) ∧ some k_ ≠ (.slice Ao134 t1019.length co134 : Value).ownBlock) ∧ some k_ ≠ (.slice Ao135 t1022.length co135 : Value).ownBlock) ∧ some k_ ≠ (.slice Ao143 t1027.length co143 : Value).ownBlock)) (n := t977.length) (c := co29) ?_).2.2; exact (by (with_reducible repeat (first | apply Kd.R_alloc | apply Kd.R_drewN | apply Kd.R_drew)); exact (Kd.R_mono (Kd.R_far (p := ⟨gb1031, 2, none⟩) (Kd.R_far (p := ⟨gb1031, 1, none⟩) (Kd.R_far (p := ⟨gb1031, 0, none⟩) (Kd.R_types HO_982002.out BK1031.out (by decide)) (fun _ hk => hk.2) (.int .i64 t1025)) (fun _ hk => hk.2) (.int .i64 t1026)) (fun _ hk => hk.2) (.slice Ao143 t1027.length co143)) (fun _ h_ => h_.1)))); (case side4 => exact (Kd.R_reads' HO_982002.out).2.1); rintro e w165 ⟨rfl, hb⟩; refine ⟨_, rfl, ?_⟩; have n0_ := Aside0.mk (Kd.R_below (by (with_reducible repeat (first | apply Kd.R_alloc | apply Kd.R_drewN | apply Kd.R_drew)); exact (Kd.R_mono (Kd.R_far (p := ⟨gb1031, 2, none⟩) (Kd.R_far (p := ⟨gb1031, 1, none⟩) (Kd.R_far (p := ⟨gb1031, 0, none⟩) (Kd.R_types HO_982002.out BK1031.out (by decide)) (fun _ hk => hk.2) (.int .i64 t1025)) (fun _ hk => hk.2) (.int .i64 t1026)) (fun _ hk => hk.2) (.slice Ao143 t1027.length co143)) (fun _ h_ => h_.1))) hb); have n1_ := Aside0.mk (Kd.R_below (by (with_reducible repeat (first | apply Kd.R_alloc | apply Kd.R_drewN | apply Kd.R_drew)); exact (Kd.R_mono (Kd.R_far (p := ⟨gb1031, 2, none⟩) (Kd.R_far (p := ⟨gb1031, 1, none⟩) (Kd.R_far (p := ⟨gb1031, 0, none⟩) (Kd.R_types HO_988002.out BK1031.out (by decide)) (fun _ hk => hk.2) (.int .i64 t1025)) (fun _ hk => hk.2) (.int .i64 t1026)) (fun _ hk => hk.2) (.slice Ao143 t1027.length co143)) (fun _ h_ => h_.1))) hb); have n2_ := Aside0.mk (Kd.R_below (by (with_reducible repeat (first | apply Kd.R_alloc | apply Kd.R_drewN | apply Kd.R_drew)); exact (Kd.R_mono (Kd.R_far (p := ⟨gb1031, 2, none⟩) (Kd.R_far (p := ⟨gb1031, 1, none⟩) (Kd.R_far (p := ⟨gb1031, 0, none⟩) (Kd.R_types HO_998002.out BK1031.out (by decide)) (fun _ hk => hk.2) (.int .i64 t1025)) (fun _ hk => hk.2) (.int .i64 t1026)) (fun _ hk => hk.2) (.slice Ao143 t1027.length co143)) (fun _ h_ => h_.1))) hb); have n3_ := Aside0.mk (Kd.R_below (by (with_reducible repeat (first | apply Kd.R_alloc | apply Kd.R_drewN | apply Kd.R_drew)); exact (Kd.R_mono (Kd.R_far (p := ⟨gb1031, 2, none⟩) (Kd.R_far (p := ⟨gb1031, 1, none⟩) (Kd.R_far (p := ⟨gb1031, 0, none⟩) (Kd.R_types HO1021.out BK1031.out (by decide)) (fun _ hk => hk.2) (.int .i64 t1025)) (fun _ hk => hk.2) (.int .i64 t1026)) (fun _ hk => hk.2) (.slice Ao143 t1027.length co143)) (fun _ h_ => h_.1))) hb); have n4_ := Aside0.mk (Kd.R_below (by (with_reducible repeat (first | apply Kd.R_alloc | apply Kd.R_drewN | apply Kd.R_drew)); exact (Kd.R_mono (Kd.R_far (p := ⟨gb1031, 2, none⟩) (Kd.R_far (p := ⟨gb1031, 1, none⟩) (Kd.R_far (p := ⟨gb1031, 0, none⟩) (Kd.R_types HO1024.out BK1031.out (by decide)) (fun _ hk => hk.2) (.int .i64 t1025)) (fun _ hk => hk.2) (.int .i64 t1026)) (fun _ hk => hk.2) (.slice Ao143 t1027.length co143)) (fun _ h_ => h_.1))) hb); have n5_ := Aside0.mk (Kd.R_below (by (with_reducible repeat (first | apply Kd.R_alloc | apply Kd.R_drewN | apply Kd.R_drew)); exact (Kd.R_mono (Kd.R_far (p := ⟨gb1031, 2, none⟩) (Kd.R_far (p := ⟨gb1031, 1, none⟩) (Kd.R_far (p := ⟨gb1031, 0, none⟩) (Kd.R_types HO1029.out BK1031.out (by decide)) (fun _ hk => hk.2) (.int .i64 t1025)) (fun _ hk => hk.2) (.int .i64 t1026)) (fun _ hk => hk.2) (.slice Ao143 t1027.length co143)) (fun _ h_ => h_.1))) hb); have n6_ := Aside0.mk (blk_below (g := gb965) (o := .cells #[.int .i64 a0_0, .int .i64 a0_1, .slice A0_2 l0_2.length c0_2] 36 (0, 0)) (by (with_reducible repeat (first | refine blk_drewN ?_ _ | refine blk_drew ?_ | refine blk_alloc ?_ _)); refine blk_far ?_ NB965_1031.out _; (with_reducible repeat (first | refine blk_drewN ?_ _ | refine blk_drew ?_ | refine blk_alloc ?_ _)); refine blk_far ?_ NB965_1031.out _; (with_reducible repeat (first | refine blk_drewN ?_ _ | refine blk_drew ?_ | refine blk_alloc ?_ _)); refine blk_far ?_ NB965_1031.out _; (with_reducible repeat (first | refine blk_drewN ?_ _ | refine blk_drew ?_ | refine blk_alloc ?_ _)); exact BK965.out) hb); have n7_ := Aside0.mk (blk_below (g := gb981) (o := .cells #[.int .i64 t975, .int .i64 t976, .slice Ao29 t977.length co29] 26 (0, 0)) (by (with_reducible repeat (first | refine blk_drewN ?_ _ | refine blk_drew ?_ | refine blk_alloc ?_ _)); refine blk_far ?_ NB981_1031.out _; (with_reducible repeat (first | refine blk_drewN ?_ _ | refine blk_drew ?_ | refine blk_alloc ?_ _)); refine blk_far ?_ NB981_1031.out _; (with_reducible repeat (first | refine blk_drewN ?_ _ | refine blk_drew ?_ | refine blk_alloc ?_ _)); refine blk_far ?_ NB981_1031.out _; (with_reducible repeat (first | refine blk_drewN ?_ _ | refine blk_drew ?_ | refine blk_alloc ?_ _)); exact BK981.out) hb); have n8_ := Aside0.mk (blk_below (g := gb987) (o := .cells #[.int .i64 t982, .int .i64 t983, .slice Ao36 t1010.length co36] 26 (0, 0)) (by (with_reducible repeat (first | refine blk_drewN ?_ _ | refine blk_drew ?_ | refine blk_alloc ?_ _)); refine blk_far ?_ NB987_1031.out _; (with_reducible repeat (first | refine blk_drewN ?_ _ | refine blk_drew ?_ | refine blk_alloc ?_ _)); refine blk_far ?_ NB987_1031.out _; (with_reducible repeat (first | refine blk_drewN ?_ _ | refine blk_drew ?_ | refine blk_alloc ?_ _)); refine blk_far ?_ NB987_1031.out _; (with_reducible repeat (first | refine blk_drewN ?_ _ | refine blk_drew ?_ | refine blk_alloc ?_ _)); exact BK987.out) hb); have n9_ := Aside0.mk (blk_below (g := gb997) (o := .cells #[.int .i64 t991, .int .i64 t992, .slice Ao46 t993.length co46] 26 (0, 0)) (by (with_reducible repeat (first | refine blk_drewN ?_ _ | refine blk_drew ?_ | refine blk_alloc ?_ _)); refine blk_far ?_ NB997_1031.out _; (with_reducible repeat (first | refine blk_drewN ?_ _ | refine blk_drew ?_ | refine blk_alloc ?_ _)); refine blk_far ?_ NB997_1031.out _; (with_reducible repeat (first | refine blk_drewN ?_ _ | refine blk_drew ?_ | refine blk_alloc ?_ _)); refine blk_far ?_ NB997_1031.out _; (with_reducible repeat (first | refine blk_drewN ?_ _ | refine blk_drew ?_ | refine blk_alloc ?_ _)); exact BK997.out) hb); have n10_ := Aside0.mk (blk_below (g := gb1031) (o := .cells #[.int .i64 t1025, .int .i64 t1026, .slice Ao143 t1027.length co143] 26 (0, 0)) (by (with_reducible repeat (first | refine blk_drewN ?_ _ | refine blk_drew ?_ | refine blk_alloc ?_ _)); refine blk_put (cs := #[.int .i64 t1025, .int .i64 t1026, .slice none 0 0]) ?_ 2 _ rfl; (with_reducible repeat (first | refine blk_drewN ?_ _ | refine blk_drew ?_ | refine blk_alloc ?_ _)); refine blk_put (cs := #[.int .i64 t1025, .int .i64 0, .slice none 0 0]) ?_ 1 _ rfl; (with_reducible repeat (first | refine blk_drewN ?_ _ | refine blk_drew ?_ | refine blk_alloc ?_ _)); refine blk_put (cs := #[.int .i64 0, .int .i64 0, .slice none 0 0]) ?_ 0 _ rfl; (with_reducible repeat (first | refine blk_drewN ?_ _ | refine blk_drew ?_ | refine blk_alloc ?_ _)); exact BK1031.out) hb); have n11_ := Aside0.mk (below_step (by repeat (first | (with_reducible first | exact HB.out | apply below_alloc | apply pw_below_drewN | apply below_drew1 | refine below_set ?_ GE965.out | refine below_set ?_ GE981.out | refine below_set ?_ GE987.out | refine below_set ?_ GE997.out | refine below_set ?_ GE1031.out) | exact HB.out)) hb); clear HO_982002; clear HO_988002; clear HO_998002; clear HO1021; clear HO1024; clear HO1029; clear BK965; clear BK981; clear BK987; clear BK997; clear BK1031; clear HB; have HO_982002 := n0_; have HO_988002 := n1_; have HO_998002 := n2_; have HO1021 := n3_; have HO1024 := n4_; have HO1029 := n5_; have BK965 := n6_; have BK981 := n7_; have BK987 := n8_; have BK997 := n9_; have BK1031 := n10_; have HB := n11_; clear n0_ n1_ n2_ n3_ n4_ n5_ n6_ n7_ n8_ n9_ n10_ n11_; (try clear hb); (try clear hb2); (try clear hk); (try clear hi)))
                                    go_meet
                                    case rel => exact ⟨_, (true), (by first | rfl | (simp; done) | (simp [*]; done)), H', ⟨by have := HJ15.out; have := HJ73.out; first | omega | exact Nat.le_refl _⟩, ⟨by (try simp only [hl988002_73]); (with_reducible repeat (first | apply Kd.R_alloc | apply Kd.R_drewN | apply Kd.R_drew)); exact Kd.R_mono HO_982002.out (fun _ hk => ⟨hk.1.1.1.1, ⟨hk.1.1.1.2, hk.2⟩⟩)⟩, ⟨by (try simp only [hl988002_73]); (with_reducible repeat (first | apply Kd.R_alloc | apply Kd.R_drewN | apply Kd.R_drew)); exact Kd.R_mono HO_988002.out (fun _ hk => ⟨hk.1.1.1.1, ⟨hk.1.1.1.2, hk.2⟩⟩)⟩, ⟨by (try simp only [hl988002_73]); (with_reducible repeat (first | apply Kd.R_alloc | apply Kd.R_drewN | apply Kd.R_drew)); exact Kd.R_mono HO_998002.out (fun _ hk => ⟨hk.1.1.1.1, ⟨hk.1.1.1.2, hk.2⟩⟩)⟩, ⟨by (try simp only [hl988002_73]); (with_reducible repeat (first | apply Kd.R_alloc | apply Kd.R_drewN | apply Kd.R_drew)); exact Kd.R_mono HO1029.out (fun _ hk => ⟨hk.1.1.1.1.2, ⟨hk.1.1.1.2, hk.1.1.2⟩⟩)⟩, ⟨by (try simp only [hl988002_73]); (with_reducible repeat (first | refine blk_drewN ?_ _ | refine blk_drew ?_ | refine blk_alloc ?_ _)); exact BK965.out⟩, ⟨by (try simp only [hl988002_73]); (with_reducible repeat (first | refine blk_drewN ?_ _ | refine blk_drew ?_ | refine blk_alloc ?_ _)); exact BK981.out⟩, ⟨by (try simp only [hl988002_73]); (with_reducible repeat (first | refine blk_drewN ?_ _ | refine blk_drew ?_ | refine blk_alloc ?_ _)); exact BK987.out⟩, ⟨by (try simp only [hl988002_73]); (with_reducible repeat (first | refine blk_drewN ?_ _ | refine blk_drew ?_ | refine blk_alloc ?_ _)); exact BK997.out⟩, ⟨by (try simp only [hl988002_73]); (with_reducible repeat (first | refine blk_drewN ?_ _ | refine blk_drew ?_ | refine blk_alloc ?_ _)); exact BK1031.out⟩, ⟨by repeat (first | (with_reducible first | exact HB.out | apply below_alloc | apply pw_below_drewN | apply below_drew1 | refine below_set ?_ GE965.out | refine below_set ?_ GE981.out | refine below_set ?_ GE987.out | refine below_set ?_ GE997.out | refine below_set ?_ GE1031.out) | exact HB.out)⟩⟩
                              case rest =>
                                as_aux_lemma =>
                                  clear HC121
                                  try clear c1
                                  try clear c2
                                  try clear p2
                                  try clear c3
                                  try clear c3b0
                                  try clear c3b1
                                  try clear c4
                                  try clear c5
                                  try clear c6
                                  try clear c6b0
                                  try clear c7
                                  try clear c8
                                  try clear c9
                                  try clear c10
                                  try clear c11
                                  try clear c12
                                  try clear c13
                                  try clear c14
                                  try clear c15
                                  try clear c16
                                  try clear c20
                                  try clear c22
                                  try clear c23
                                  try clear c25
                                  try clear c26
                                  try clear c27
                                  try clear c28
                                  try clear c29
                                  try clear c33
                                  try clear c34
                                  try clear c35
                                  try clear c42
                                  try clear c43
                                  try clear c44
                                  try clear c48
                                  try clear c49
                                  try clear c50
                                  try clear c51
                                  try clear c53
                                  try clear c54
                                  try clear c57
                                  try clear c58
                                  try clear c59
                                  try clear c61
                                  try clear c62
                                  try clear c65
                                  try clear c68
                                  try clear c71
                                  try clear c81
                                  try clear c82
                                  try clear c83
                                  try clear c87
                                  try clear c87b0
                                  try clear c89
                                  try clear c90
                                  try clear c91
                                  try clear c92
                                  try clear c94
                                  try clear c95
                                  try clear c98
                                  try clear c99
                                  try clear c100
                                  try clear c102
                                  try clear c103
                                  try clear c106
                                  try clear c109
                                  try clear c109b0
                                  try clear c110
                                  try clear c111
                                  try clear c112
                                  try clear c117
                                  try clear c117b0
                                  try clear c117b1
                                  try clear c122
                                  try clear c123
                                  try clear c124
                                  try clear c129
                                  try clear c130
                                  try clear c138
                                  try clear c139
                                  try clear c140
                                  try clear c141
                                  try clear c145
                                  try clear c146
                                  try clear c147
                                  try clear c148
                                  try clear c149
                                  try clear c151
                                  try clear c152
                                  try clear c153
                                  try clear c156
                                  try clear c157
                                  try clear c158
                                  try clear c159
                                  try clear c161
                                  try clear c162
                                  try clear c163
                                  try clear hcz101_0
                                  try clear hcz101_1
                                  try clear hcz101_2
                                  try clear hcz104_0
                                  try clear hcz104_1
                                  try clear hcz104_2
                                  try clear hcz113_0
                                  try clear hcz113_1
                                  try clear hcz113_2
                                  try clear hcz115_0
                                  try clear hcz115_1
                                  try clear hcz115_2
                                  try clear hcz125_0
                                  try clear hcz125_1
                                  try clear hcz125_2
                                  try clear hcz127_0
                                  try clear hcz127_1
                                  try clear hcz127_2
                                  try clear hcz131_0
                                  try clear hcz131_1
                                  try clear hcz131_2
                                  try clear hcz142_0
                                  try clear hcz142_1
                                  try clear hcz142_2
                                  try clear hcz150_0
                                  try clear hcz150_1
                                  try clear hcz150_2
                                  try clear hcz154_0
                                  try clear hcz154_1
                                  try clear hcz154_2
                                  try clear hcz160_0
                                  try clear hcz160_1
                                  try clear hcz160_2
                                  try clear hcz164_0
                                  try clear hcz164_1
                                  try clear hcz164_2
                                  try clear hcz18_0
                                  try clear hcz18_1
                                  try clear hcz18_2
                                  try clear hcz20_0
                                  try clear hcz20_1
                                  try clear hcz20_2
                                  try clear hcz28_0
                                  try clear hcz28_1
                                  try clear hcz28_2
                                  try clear hcz30_0
                                  try clear hcz30_1
                                  try clear hcz30_2
                                  try clear hcz35_0
                                  try clear hcz35_1
                                  try clear hcz35_2
                                  try clear hcz38_0
                                  try clear hcz38_1
                                  try clear hcz38_2
                                  try clear hcz45_0
                                  try clear hcz45_1
                                  try clear hcz45_2
                                  try clear hcz52_0
                                  try clear hcz52_1
                                  try clear hcz52_2
                                  try clear hcz55_0
                                  try clear hcz55_1
                                  try clear hcz55_2
                                  try clear hcz60_0
                                  try clear hcz60_1
                                  try clear hcz60_2
                                  try clear hcz63_0
                                  try clear hcz63_1
                                  try clear hcz63_2
                                  try clear hcz84_0
                                  try clear hcz84_1
                                  try clear hcz84_2
                                  try clear hcz8_0
                                  try clear hcz8_1
                                  try clear hcz8_2
                                  try clear hcz93_0
                                  try clear hcz93_1
                                  try clear hcz93_2
                                  try clear hcz96_0
                                  try clear hcz96_1
                                  try clear hcz96_2
                                  try clear hfz101_0
                                  try clear hfz101_1
                                  try clear hfz101_2
                                  try clear hfz104_0
                                  try clear hfz104_1
                                  try clear hfz104_2
                                  try clear hfz113_0
                                  try clear hfz113_1
                                  try clear hfz113_2
                                  try clear hfz115_0
                                  try clear hfz115_1
                                  try clear hfz115_2
                                  try clear hfz125_0
                                  try clear hfz125_1
                                  try clear hfz125_2
                                  try clear hfz127_0
                                  try clear hfz127_1
                                  try clear hfz127_2
                                  try clear hfz131_0
                                  try clear hfz131_1
                                  try clear hfz131_2
                                  try clear hfz142_0
                                  try clear hfz142_1
                                  try clear hfz142_2
                                  try clear hfz150_0
                                  try clear hfz150_1
                                  try clear hfz150_2
                                  try clear hfz154_0
                                  try clear hfz154_1
                                  try clear hfz154_2
                                  try clear hfz160_0
                                  try clear hfz160_1
                                  try clear hfz160_2
                                  try clear hfz164_0
                                  try clear hfz164_1
                                  try clear hfz164_2
                                  try clear hfz18_0
                                  try clear hfz18_1
                                  try clear hfz18_2
                                  try clear hfz20_0
                                  try clear hfz20_1
                                  try clear hfz20_2
                                  try clear hfz28_0
                                  try clear hfz28_1
                                  try clear hfz28_2
                                  try clear hfz30_0
                                  try clear hfz30_1
                                  try clear hfz30_2
                                  try clear hfz35_0
                                  try clear hfz35_1
                                  try clear hfz35_2
                                  try clear hfz38_0
                                  try clear hfz38_1
                                  try clear hfz38_2
                                  try clear hfz45_0
                                  try clear hfz45_1
                                  try clear hfz45_2
                                  try clear hfz52_0
                                  try clear hfz52_1
                                  try clear hfz52_2
                                  try clear hfz55_0
                                  try clear hfz55_1
                                  try clear hfz55_2
                                  try clear hfz60_0
                                  try clear hfz60_1
                                  try clear hfz60_2
                                  try clear hfz63_0
                                  try clear hfz63_1
                                  try clear hfz63_2
                                  try clear hfz84_0
                                  try clear hfz84_1
                                  try clear hfz84_2
                                  try clear hfz8_0
                                  try clear hfz8_1
                                  try clear hfz8_2
                                  try clear hfz93_0
                                  try clear hfz93_1
                                  try clear hfz93_2
                                  try clear hfz96_0
                                  try clear hfz96_1
                                  try clear hfz96_2
                                  try clear p2
                                  obtain ⟨kq, x108_120, rfl, HA, HJ120, HO_982002, HO_988002, HO_998002, HO_1032002, BK965, BK981, BK987, BK997, BK1031, HB⟩ := hcut
                                  have hl998002_120 := (Kd.R_reads' HO_998002.out).1
                                  rw [hl998002_120] at HO_998002
                                  (try simp only [hl998002_120])
                                  (try simp only [hl998002_120] at BK965)
                                  (try simp only [hl998002_120] at BK981)
                                  (try simp only [hl998002_120] at BK987)
                                  (try simp only [hl998002_120] at BK997)
                                  (try simp only [hl998002_120] at BK1031)
                                  (try simp only [hl998002_120] at HO_982002)
                                  (try simp only [hl998002_120] at HO_988002)
                                  (try simp only [hl998002_120] at HO_1032002)
                                  cases kq with
                                  | zero => exact absurd HA.out (by simp [laws_FnExactSpreadMean.j2])
                                  | succ kj120 =>
                                    have H := HA.out
                                    clear HA
                                    simp only [laws_FnExactSpreadMean.j2] at H
                                    by_cases c166 : x108_120 = true
                                    · subst c166
                                      have H1 : (some false) = some r := by rw [if_pos rfl] at H; exact H
                                      exact absurd ((Option.some.inj H1).trans hrt_) (by decide)
                                    · replace c166 := Bool.eq_false_iff.mpr c166
                                      subst c166
                                      have H1 : ((laws_heldField.f kj120 t991 t992 t1015 1).bind fun t1033 => (if t1033 < 0 then (some false) else (if t1033 = t1014 then (some true) else (some false)))) = some r := by rw [if_neg (show ¬ (false = true) by decide)] at H; exact H
                                      clear H
                                      have H := H1
                                      clear H1
                                      replace H := Option.bind_eq_some_iff.mp H
                                      obtain ⟨t1033, A1670, H⟩ := H
                                      replace H : (if t1033 < 0 then (some false) else (if t1033 = t1014 then (some true) else (some false))) = some r := H
                                      have A167 := Aside0.mk A1670
                                      clear A1670
                                      by_cases c168 : t1033 < 0
                                      · rw [if_pos c168] at H
                                        have c168b0 : decide (t1033 < 0) = true := decide_eq_true c168
                                        clear c168
                                        exact absurd ((Option.some.inj H).trans hrt_) (by decide)
                                      · rw [if_neg c168] at H
                                        have c168b0 : decide (t1033 < 0) = false := decide_eq_false c168
                                        clear c168
                                        by_cases c175 : t1033 = t1014
                                        · rw [if_pos c175] at H
                                          have c175b0 : (t1033 == t1014) = true := beq_iff_eq.mpr c175
                                          have c175b1 : (t1033 != t1014) = false := bne_eq_false_iff_eq.mpr c175
                                          clear c175
                                          obtain rfl := Option.some.inj H
                                          have hnb176 := NB997_965.out
                                          have hnc176 := NB965_997.out
                                          have hnb177 := NB997_981.out
                                          have hnc177 := NB981_997.out
                                          have hnb178 := NB997_987.out
                                          have hnc178 := NB987_997.out
                                          have hnb179 := NB997_1031.out
                                          have hnc179 := NB1031_997.out
                                          have hcz180_0 : wc.cell? ⟨gb997, 0, none⟩ = some (.int .i64 t991) := (blk_cell BK997.out 0).trans rfl
                                          have hcz180_1 : wc.cell? ⟨gb997, 1, none⟩ = some (.int .i64 t992) := (blk_cell BK997.out 1).trans rfl
                                          have hcz180_2 : wc.cell? ⟨gb997, 2, none⟩ = some (.slice Ao46 t1015.length co46) := (blk_cell BK997.out 2).trans rfl
                                          have hfz180_0 := blk_frozen BK997.out 0
                                          have hfz180_1 := blk_frozen BK997.out 1
                                          have hfz180_2 := blk_frozen BK997.out 2
                                          go_wp2_with (first | ((with_reducible refine gate_callee (f := 29) rfl ?_); refine goesL_ (some 111) rfl rfl Try.func29 (by kernel_rfl) rfl #[.agg #[.int .i64 t991, .int .i64 t992, .slice Ao46 t1015.length co46], .int .i64 1] rfl (by (try simp only [List.map_toArray, List.map_cons, List.map_nil]); first | done | rfl | (simp only [List.length_drop, List.length_take]; rfl)) ?_; (with_reducible refine (laws_heldField.calls kj120 t991 t992 _ _ t1015 1 t1033 _ ?side1 ?side2 A167.out).mono ?_); (case side1 => repeat (first | exact (Kd.R_reads' HO_998002.out).2.2 | (with_reducible refine Kd.C_alloc ?_ _) | (with_reducible refine Kd.C_drewN ?_ _) | (with_reducible refine Kd.C_drew ?_))); (case side2 => exact (Kd.R_reads' HO_998002.out).2.1); rintro e w181 ⟨rfl, hb⟩; refine ⟨_, rfl, ?_⟩; have n0_ := Aside0.mk (Kd.R_below (by (with_reducible repeat (first | apply Kd.R_alloc | apply Kd.R_drewN | apply Kd.R_drew)); exact HO_982002.out) hb); have n1_ := Aside0.mk (Kd.R_below (by (with_reducible repeat (first | apply Kd.R_alloc | apply Kd.R_drewN | apply Kd.R_drew)); exact HO_988002.out) hb); have n2_ := Aside0.mk (Kd.R_below (by (with_reducible repeat (first | apply Kd.R_alloc | apply Kd.R_drewN | apply Kd.R_drew)); exact HO_998002.out) hb); have n3_ := Aside0.mk (Kd.R_below (by (with_reducible repeat (first | apply Kd.R_alloc | apply Kd.R_drewN | apply Kd.R_drew)); exact HO_1032002.out) hb); have n4_ := Aside0.mk (blk_below (g := gb965) (o := .cells #[.int .i64 a0_0, .int .i64 a0_1, .slice A0_2 l0_2.length c0_2] 36 (0, 0)) BK965.out hb); have n5_ := Aside0.mk (blk_below (g := gb981) (o := .cells #[.int .i64 t975, .int .i64 t976, .slice Ao29 t977.length co29] 26 (0, 0)) BK981.out hb); have n6_ := Aside0.mk (blk_below (g := gb987) (o := .cells #[.int .i64 t982, .int .i64 t983, .slice Ao36 t1010.length co36] 26 (0, 0)) BK987.out hb); have n7_ := Aside0.mk (blk_below (g := gb997) (o := .cells #[.int .i64 t991, .int .i64 t992, .slice Ao46 t1015.length co46] 26 (0, 0)) BK997.out hb); have n8_ := Aside0.mk (blk_below (g := gb1031) (o := .cells #[.int .i64 t1025, .int .i64 t1026, .slice Ao143 t1027.length co143] 26 (0, 0)) BK1031.out hb); have n9_ := Aside0.mk (below_step (by repeat (first | (with_reducible first | exact HB.out | apply below_alloc | apply pw_below_drewN | apply below_drew1 | refine below_set ?_ GE965.out | refine below_set ?_ GE981.out | refine below_set ?_ GE987.out | refine below_set ?_ GE997.out | refine below_set ?_ GE1031.out) | exact HB.out)) hb); clear HO_982002; clear HO_988002; clear HO_998002; clear HO_1032002; clear BK965; clear BK981; clear BK987; clear BK997; clear BK1031; clear HB; have HO_982002 := n0_; have HO_988002 := n1_; have HO_998002 := n2_; have HO_1032002 := n3_; have BK965 := n4_; have BK981 := n5_; have BK987 := n6_; have BK997 := n7_; have BK1031 := n8_; have HB := n9_; clear n0_ n1_ n2_ n3_ n4_ n5_ n6_ n7_ n8_ n9_; (try clear hb); (try clear hb2); (try clear hk); (try clear hi)))
                                          go_ret
                                          exact ⟨by first | rfl | (simp [errW_none, errW_some] <;> rfl) | (simp [*, errW_none, errW_some] <;> rfl), by repeat (first | (with_reducible first | exact HB.out | apply below_alloc | apply pw_below_drewN | apply below_drew1 | refine below_set ?_ GE965.out | refine below_set ?_ GE981.out | refine below_set ?_ GE987.out | refine below_set ?_ GE997.out | refine below_set ?_ GE1031.out) | exact HB.out)⟩
                                        · rw [if_neg c175] at H
                                          have c175b0 : (t1033 == t1014) = false := beq_eq_false_iff_ne.mpr c175
                                          have c175b1 : (t1033 != t1014) = true := bne_iff_ne.mpr c175
                                          exact absurd ((Option.some.inj H).trans hrt_) (by decide)
                            · rw [if_neg c117] at H
                              have c117b0 : (t1016 == t1014) = false := beq_eq_false_iff_ne.mpr c117
                              have c117b1 : (t1016 != t1014) = true := bne_iff_ne.mpr c117
                              exact absurd ((Option.some.inj H).trans hrt_) (by decide)
                · replace c71 := Bool.eq_false_iff.mpr c71
                  subst c71
                  have H1 : (some false) = some r := by rw [if_neg (show ¬ (false = true) by decide)] at H; exact H
                  exact absurd ((Option.some.inj H1).trans hrt_) (by decide)
              · replace c68 := Bool.eq_false_iff.mpr c68
                subst c68
                have H1 : (some false) = some r := by rw [if_neg (show ¬ (false = true) by decide)] at H; exact H
                exact absurd ((Option.some.inj H1).trans hrt_) (by decide)
end Go.Proofs.Ytdmkbfjipgaloaa.P
