-- Made by pp.py of this session out of the kit's print and of contracts proved by hand; Lean checks it.
import Derived.Test.YtdmkbfjipgaloaaPx0
import Derived.Test.YtdmkbfjipgaloaaPx7
import Derived.Test.YtdmkbfjipgaloaaPx24
import Derived.Test.YtdmkbfjipgaloaaPx25
namespace Go.Proofs.Ytdmkbfjipgaloaa.P
open Go.RowKit Go.Proofs.YtdmkbfjipgaloaaW.PrintWords Go.Proofs.YtdmkbfjipgaloaaW.PrintLast Go.Proofs.YtdmkbfjipgaloaaW.PrintMore
attribute [local go_sem] max2_int min2_int max_two min_two max_three min_three max_four min_four   -- for this text's walks alone
set_option linter.unusedVariables false
set_option linter.unusedSimpArgs false

/-! ### laws_FnExactAddToRegion: function 8 -/
mutual
def laws_FnExactAddToRegion.j0 : Nat → List Int → Int → Bool → List Int → Bool → Bool → Int → Int → List Int → Int → Int → List Int → Int → Int → List Int → Int → Int → List Int → Option (Bool)
  | 0, _, _, _, _, _, _, _, _, _, _, _, _, _, _, _, _, _, _ => none
  | k + 1, x1, x2, x9, x11, x13, x55, x897000, x897001, x897002, x913000, x913001, x913002, x919000, x919001, x919002, x929000, x929001, x929002 => if x55 = true then (some false) else ((laws_toField.f k x897000 x897001 x897002).bind fun bt930 => ((laws_eqField.f k x919000 x919001 x919002 bt930.1 bt930.2.1 bt930.2.2).bind fun t935 => (if t935 = true then ((laws_toIntS.f k x1).bind fun t936 => ((laws_eqIntS.f k x11 t936).bind fun t939 => (if t939 = true then ((laws_markField.f k x919000 x919001 x919002 1).bind fun bt940 => ((laws_markIntS.f k x11 bt940.1).bind fun bt942 => (if bt942.1 < 0 then (laws_FnExactAddToRegion.j1 k x1 x2 x9 true x897000 x897001 x897002 x913000 x913001 x913002 x929000 x929001 x929002) else ((laws_eqField.f k x929000 x929001 x929002 x913000 x913001 x913002).bind fun t944 => (if t944 = true then (laws_FnExactAddToRegion.j1 k x1 x2 x9 (x13 != x9) x897000 x897001 x897002 x913000 x913001 x913002 x929000 x929001 x929002) else (laws_FnExactAddToRegion.j1 k x1 x2 x9 true x897000 x897001 x897002 x913000 x913001 x913002 x929000 x929001 x929002)))))) else (some false)))) else (some false))))
def laws_FnExactAddToRegion.j1 : Nat → List Int → Int → Bool → Bool → Int → Int → List Int → Int → Int → List Int → Int → Int → List Int → Option (Bool)
  | 0, _, _, _, _, _, _, _, _, _, _, _, _, _ => none
  | k + 1, x1, x2, x9, x84, x897000, x897001, x897002, x913000, x913001, x913002, x929000, x929001, x929002 => if x84 = true then (some false) else ((laws_markField.f k x929000 x929001 x929002 1).bind fun bt945 => ((laws_heldField.f k x929000 x929001 bt945.2 1).bind fun t947 => (if t947 < 0 then (some false) else (if t947 = bt945.1 then ((laws_toField.f k x897000 x897001 x897002).bind fun bt948 => ((laws_toIntS.f k x1).bind fun t953 => ((impl_AddToRegion.f k bt948.1 bt948.2.1 bt948.2.2 t953 x2).bind fun bt956 => ((laws_eqField.f k bt956.1 bt956.2.1 bt956.2.2.1 x913000 x913001 x913002).bind fun t963 => (if t963 = true then (laws_FnExactAddToRegion.j2 k bt945.1 (bt956.2.2.2 != x9) x929000 x929001 bt945.2) else (laws_FnExactAddToRegion.j2 k bt945.1 true x929000 x929001 bt945.2)))))) else (some false)))))
def laws_FnExactAddToRegion.j2 : Nat → Int → Bool → Int → Int → List Int → Option (Bool)
  | 0, _, _, _, _, _ => none
  | k + 1, x15, x113, x929000, x929001, x929002 => if x113 = true then (some false) else ((laws_heldField.f k x929000 x929001 x929002 1).bind fun t964 => (if t964 < 0 then (some false) else (if t964 = x15 then (some true) else (some false))))
end
def laws_FnExactAddToRegion.f (k : Nat) (a0_0 : Int) (a0_1 : Int) (l0_2 : List Int) (l1 : List Int) (a2 : Int) : Option (Bool) := if (l1.length : Int) > 1048576 then (some true) else ((laws_szField.f a0_0 a0_1 l0_2 1048576).bind fun t897 => (if t897 < 0 then (some true) else ((laws_toField.f k a0_0 a0_1 l0_2).bind fun bt898 => ((laws_toIntS.f k l1).bind fun t903 => ((spec_AddToRegion.f k bt898.1 bt898.2.1 bt898.2.2 t903 a2).bind fun bt906 => ((laws_toField.f k a0_0 a0_1 l0_2).bind fun bt913 => ((laws_toIntS.f k l1).bind fun t919 => ((impl_AddToRegion.f k bt913.1 bt913.2.1 bt913.2.2 t919 a2).bind fun bt922 => ((laws_eqField.f k bt922.1 bt922.2.1 bt922.2.2.1 bt906.1 bt906.2.1 bt906.2.2.1).bind fun t929 => (if t929 = true then (laws_FnExactAddToRegion.j0 k l1 a2 bt906.2.2.2 t919 bt922.2.2.2 (bt922.2.2.2 != bt906.2.2.2) a0_0 a0_1 l0_2 bt906.1 bt906.2.1 bt906.2.2.1 bt913.1 bt913.2.1 bt913.2.2 bt922.1 bt922.2.1 bt922.2.2.1) else (laws_FnExactAddToRegion.j0 k l1 a2 bt906.2.2.2 t919 bt922.2.2.2 true a0_0 a0_1 l0_2 bt906.1 bt906.2.1 bt906.2.2.1 bt913.1 bt913.2.1 bt913.2.2 bt922.1 bt922.2.1 bt922.2.2.1)))))))))))
theorem laws_FnExactAddToRegion.mono_l : ∀ k, (∀ y0 y1 y2 y3 y4 y5 y6 y7 y8 y9 y10 y11 y12 y13 y14 y15 y16 y17, LeO (laws_FnExactAddToRegion.j0 k y0 y1 y2 y3 y4 y5 y6 y7 y8 y9 y10 y11 y12 y13 y14 y15 y16 y17) (laws_FnExactAddToRegion.j0 (k + 1) y0 y1 y2 y3 y4 y5 y6 y7 y8 y9 y10 y11 y12 y13 y14 y15 y16 y17)) ∧ (∀ y0 y1 y2 y3 y4 y5 y6 y7 y8 y9 y10 y11 y12, LeO (laws_FnExactAddToRegion.j1 k y0 y1 y2 y3 y4 y5 y6 y7 y8 y9 y10 y11 y12) (laws_FnExactAddToRegion.j1 (k + 1) y0 y1 y2 y3 y4 y5 y6 y7 y8 y9 y10 y11 y12)) ∧ (∀ y0 y1 y2 y3 y4, LeO (laws_FnExactAddToRegion.j2 k y0 y1 y2 y3 y4) (laws_FnExactAddToRegion.j2 (k + 1) y0 y1 y2 y3 y4))
  | 0 => ⟨fun _ _ _ _ _ _ _ _ _ _ _ _ _ _ _ _ _ _ r h => by simp [laws_FnExactAddToRegion.j0] at h, fun _ _ _ _ _ _ _ _ _ _ _ _ _ r h => by simp [laws_FnExactAddToRegion.j1] at h, fun _ _ _ _ _ r h => by simp [laws_FnExactAddToRegion.j2] at h⟩
  | k + 1 => by
    obtain ⟨ih0, ih1, ih2⟩ := laws_FnExactAddToRegion.mono_l k
    refine ⟨?_, ?_, ?_⟩
    · intro y0 y1 y2 y3 y4 y5 y6 y7 y8 y9 y10 y11 y12 y13 y14 y15 y16 y17
      unfold laws_FnExactAddToRegion.j0
      repeat' first
      | (with_reducible exact ih0 _ _ _ _ _ _ _ _ _ _ _ _ _ _ _ _ _ _)
      | (with_reducible exact ih1 _ _ _ _ _ _ _ _ _ _ _ _ _)
      | (with_reducible exact ih2 _ _ _ _ _)
      | (with_reducible exact impl_AddToRegion.mono _ _ _ _ _ _)
      | (with_reducible exact laws_eqField.mono _ _ _ _ _ _ _)
      | (with_reducible exact laws_eqIntS.mono _ _ _)
      | (with_reducible exact laws_heldField.mono _ _ _ _ _)
      | (with_reducible exact laws_markField.mono _ _ _ _ _)
      | (with_reducible exact laws_markIntS.mono _ _ _)
      | (with_reducible exact laws_toField.mono _ _ _ _)
      | (with_reducible exact laws_toIntS.mono _ _)
      | (with_reducible exact spec_AddToRegion.mono _ _ _ _ _ _)
      | (with_reducible exact LeO.refl _)
      | (with_reducible exact LeO.none _)
      | (with_reducible refine LeO.ite ?_ ?_)
      | (with_reducible refine LeO.bind ?_ (fun _ => ?_))
      | exact ih0 _ _ _ _ _ _ _ _ _ _ _ _ _ _ _ _ _ _
      | exact ih1 _ _ _ _ _ _ _ _ _ _ _ _ _
      | exact ih2 _ _ _ _ _
      | exact impl_AddToRegion.mono _ _ _ _ _ _
      | exact laws_eqField.mono _ _ _ _ _ _ _
      | exact laws_eqIntS.mono _ _ _
      | exact laws_heldField.mono _ _ _ _ _
      | exact laws_markField.mono _ _ _ _ _
      | exact laws_markIntS.mono _ _ _
      | exact laws_toField.mono _ _ _ _
      | exact laws_toIntS.mono _ _
      | exact spec_AddToRegion.mono _ _ _ _ _ _
      | exact LeO.none _
      | refine LeO.ite ?_ ?_
      | refine LeO.bind ?_ (fun _ => ?_)
    · intro y0 y1 y2 y3 y4 y5 y6 y7 y8 y9 y10 y11 y12
      unfold laws_FnExactAddToRegion.j1
      repeat' first
      | (with_reducible exact ih0 _ _ _ _ _ _ _ _ _ _ _ _ _ _ _ _ _ _)
      | (with_reducible exact ih1 _ _ _ _ _ _ _ _ _ _ _ _ _)
      | (with_reducible exact ih2 _ _ _ _ _)
      | (with_reducible exact impl_AddToRegion.mono _ _ _ _ _ _)
      | (with_reducible exact laws_eqField.mono _ _ _ _ _ _ _)
      | (with_reducible exact laws_eqIntS.mono _ _ _)
      | (with_reducible exact laws_heldField.mono _ _ _ _ _)
      | (with_reducible exact laws_markField.mono _ _ _ _ _)
      | (with_reducible exact laws_markIntS.mono _ _ _)
      | (with_reducible exact laws_toField.mono _ _ _ _)
      | (with_reducible exact laws_toIntS.mono _ _)
      | (with_reducible exact spec_AddToRegion.mono _ _ _ _ _ _)
      | (with_reducible exact LeO.refl _)
      | (with_reducible exact LeO.none _)
      | (with_reducible refine LeO.ite ?_ ?_)
      | (with_reducible refine LeO.bind ?_ (fun _ => ?_))
      | exact ih0 _ _ _ _ _ _ _ _ _ _ _ _ _ _ _ _ _ _
      | exact ih1 _ _ _ _ _ _ _ _ _ _ _ _ _
      | exact ih2 _ _ _ _ _
      | exact impl_AddToRegion.mono _ _ _ _ _ _
      | exact laws_eqField.mono _ _ _ _ _ _ _
      | exact laws_eqIntS.mono _ _ _
      | exact laws_heldField.mono _ _ _ _ _
      | exact laws_markField.mono _ _ _ _ _
      | exact laws_markIntS.mono _ _ _
      | exact laws_toField.mono _ _ _ _
      | exact laws_toIntS.mono _ _
      | exact spec_AddToRegion.mono _ _ _ _ _ _
      | exact LeO.none _
      | refine LeO.ite ?_ ?_
      | refine LeO.bind ?_ (fun _ => ?_)
    · intro y0 y1 y2 y3 y4
      unfold laws_FnExactAddToRegion.j2
      repeat' first
      | (with_reducible exact ih0 _ _ _ _ _ _ _ _ _ _ _ _ _ _ _ _ _ _)
      | (with_reducible exact ih1 _ _ _ _ _ _ _ _ _ _ _ _ _)
      | (with_reducible exact ih2 _ _ _ _ _)
      | (with_reducible exact impl_AddToRegion.mono _ _ _ _ _ _)
      | (with_reducible exact laws_eqField.mono _ _ _ _ _ _ _)
      | (with_reducible exact laws_eqIntS.mono _ _ _)
      | (with_reducible exact laws_heldField.mono _ _ _ _ _)
      | (with_reducible exact laws_markField.mono _ _ _ _ _)
      | (with_reducible exact laws_markIntS.mono _ _ _)
      | (with_reducible exact laws_toField.mono _ _ _ _)
      | (with_reducible exact laws_toIntS.mono _ _)
      | (with_reducible exact spec_AddToRegion.mono _ _ _ _ _ _)
      | (with_reducible exact LeO.refl _)
      | (with_reducible exact LeO.none _)
      | (with_reducible refine LeO.ite ?_ ?_)
      | (with_reducible refine LeO.bind ?_ (fun _ => ?_))
      | exact ih0 _ _ _ _ _ _ _ _ _ _ _ _ _ _ _ _ _ _
      | exact ih1 _ _ _ _ _ _ _ _ _ _ _ _ _
      | exact ih2 _ _ _ _ _
      | exact impl_AddToRegion.mono _ _ _ _ _ _
      | exact laws_eqField.mono _ _ _ _ _ _ _
      | exact laws_eqIntS.mono _ _ _
      | exact laws_heldField.mono _ _ _ _ _
      | exact laws_markField.mono _ _ _ _ _
      | exact laws_markIntS.mono _ _ _
      | exact laws_toField.mono _ _ _ _
      | exact laws_toIntS.mono _ _
      | exact spec_AddToRegion.mono _ _ _ _ _ _
      | exact LeO.none _
      | refine LeO.ite ?_ ?_
      | refine LeO.bind ?_ (fun _ => ?_)
theorem laws_FnExactAddToRegion.mono : ∀ a0 a1 a2 a3 a4 k, LeO (laws_FnExactAddToRegion.f k a0 a1 a2 a3 a4) (laws_FnExactAddToRegion.f (k + 1) a0 a1 a2 a3 a4) := by
  intro a0 a1 a2 a3 a4 k
  obtain ⟨ih0, ih1, ih2⟩ := laws_FnExactAddToRegion.mono_l k
  unfold laws_FnExactAddToRegion.f
  repeat' first
      | (with_reducible exact ih0 _ _ _ _ _ _ _ _ _ _ _ _ _ _ _ _ _ _)
      | (with_reducible exact ih1 _ _ _ _ _ _ _ _ _ _ _ _ _)
      | (with_reducible exact ih2 _ _ _ _ _)
      | (with_reducible exact impl_AddToRegion.mono _ _ _ _ _ _)
      | (with_reducible exact laws_eqField.mono _ _ _ _ _ _ _)
      | (with_reducible exact laws_eqIntS.mono _ _ _)
      | (with_reducible exact laws_heldField.mono _ _ _ _ _)
      | (with_reducible exact laws_markField.mono _ _ _ _ _)
      | (with_reducible exact laws_markIntS.mono _ _ _)
      | (with_reducible exact laws_toField.mono _ _ _ _)
      | (with_reducible exact laws_toIntS.mono _ _)
      | (with_reducible exact spec_AddToRegion.mono _ _ _ _ _ _)
      | (with_reducible exact LeO.refl _)
      | (with_reducible exact LeO.none _)
      | (with_reducible refine LeO.ite ?_ ?_)
      | (with_reducible refine LeO.bind ?_ (fun _ => ?_))
      | exact ih0 _ _ _ _ _ _ _ _ _ _ _ _ _ _ _ _ _ _
      | exact ih1 _ _ _ _ _ _ _ _ _ _ _ _ _
      | exact ih2 _ _ _ _ _
      | exact impl_AddToRegion.mono _ _ _ _ _ _
      | exact laws_eqField.mono _ _ _ _ _ _ _
      | exact laws_eqIntS.mono _ _ _
      | exact laws_heldField.mono _ _ _ _ _
      | exact laws_markField.mono _ _ _ _ _
      | exact laws_markIntS.mono _ _ _
      | exact laws_toField.mono _ _ _ _
      | exact laws_toIntS.mono _ _
      | exact spec_AddToRegion.mono _ _ _ _ _ _
      | exact LeO.none _
      | refine LeO.ite ?_ ?_
      | refine LeO.bind ?_ (fun _ => ?_)
set_option maxHeartbeats 8000000 in
set_option maxRecDepth 100000 in
theorem laws_FnExactAddToRegion.calls (k : Nat) (a0_0 : Int) (a0_1 : Int) (A0_2 : Option Addr) (c0_2 : Nat) (l0_2 : List Int) (A1 : Option Addr) (c1 : Nat) (l1 : List Int) (a2 : Int) (r : Bool) (w : World) (hr0_2 : Kd.C (Kd.int .i64) w A0_2 l0_2.length l0_2) (hc0_2 : l0_2.length ≤ c0_2) (hr1 : Kd.C (Kd.int .i64) w A1 l1.length l1) (hc1 : l1.length ≤ c1) (hrt_ : r = true) (h : laws_FnExactAddToRegion.f k a0_0 a0_1 l0_2 l1 a2 = some r) :
    Calls Try.prog 8 #[.agg #[.int .i64 a0_0, .int .i64 a0_1, .slice A0_2 l0_2.length c0_2], .slice A1 l1.length c1, .int .i64 a2] w fun e w' => e = .returned (.bool r) ∧ Below w.heap.size w w' := by
  have hu36 := Try.underlying36
  have hu26 := Try.underlying26
  have HR0_2 := Aside0.mk hr0_2
  have HC0_2 := Aside0.mk hc0_2
  clear hr0_2 hc0_2
  have HR1 := Aside0.mk hr1
  have HC1 := Aside0.mk hc1
  clear hr1 hc1
  have HB := Aside0.mk (Below.refl w.heap.size w)
  have H : (if (l1.length : Int) > 1048576 then (some true) else ((laws_szField.f a0_0 a0_1 l0_2 1048576).bind fun t897 => (if t897 < 0 then (some true) else ((laws_toField.f k a0_0 a0_1 l0_2).bind fun bt898 => ((laws_toIntS.f k l1).bind fun t903 => ((spec_AddToRegion.f k bt898.1 bt898.2.1 bt898.2.2 t903 a2).bind fun bt906 => ((laws_toField.f k a0_0 a0_1 l0_2).bind fun bt913 => ((laws_toIntS.f k l1).bind fun t919 => ((impl_AddToRegion.f k bt913.1 bt913.2.1 bt913.2.2 t919 a2).bind fun bt922 => ((laws_eqField.f k bt922.1 bt922.2.1 bt922.2.2.1 bt906.1 bt906.2.1 bt906.2.2.1).bind fun t929 => (if t929 = true then (laws_FnExactAddToRegion.j0 k l1 a2 bt906.2.2.2 t919 bt922.2.2.2 (bt922.2.2.2 != bt906.2.2.2) a0_0 a0_1 l0_2 bt906.1 bt906.2.1 bt906.2.2.1 bt913.1 bt913.2.1 bt913.2.2 bt922.1 bt922.2.1 bt922.2.2.1) else (laws_FnExactAddToRegion.j0 k l1 a2 bt906.2.2.2 t919 bt922.2.2.2 true a0_0 a0_1 l0_2 bt906.1 bt906.2.1 bt906.2.2.1 bt913.1 bt913.2.1 bt913.2.2 bt922.1 bt922.2.1 bt922.2.2.1)))))))))))) = some r := h
  clear h
  by_cases c4 : (l1.length : Int) > 1048576
  · rw [if_pos c4] at H
    have c4b0 : decide (1048576 < (l1.length : Int)) = true := decide_eq_true c4
    have c4b1 : decide (1048576 < l1.length) = true := decide_eq_true (by omega)
    clear c4
    obtain rfl := Option.some.inj H
    go_enter Try.func8, Try.ntmps8
    go_wp2_with (first | ((with_reducible refine gate_dst (N := 3) rfl ?_); refine box_event ?hg (N := 3) ?hd (cs := #[.int .i64 a0_0, .int .i64 a0_1, .slice A0_2 l0_2.length c0_2]) (t := 36) ?hr ?_; (case hd => rfl); (case hg => rfl); (case hr => first | (go_simp; done) | (go_simp; rfl)); intro gb896 hg w5 hbox hb; have n0_ := Aside0.mk (below_step (by repeat (first | (with_reducible first | exact HB.out | apply below_alloc | apply pw_below_drewN | apply below_drew1) | exact HB.out)) hb); have n1_ := Aside0.mk (hbox); have n2_ := Aside0.mk ((by rw [hg]; exact (below_size (by repeat (first | (with_reducible first | exact HB.out | apply below_alloc | apply pw_below_drewN | apply below_drew1) | exact HB.out))) : w.heap.size ≤ gb896)); have n3_ := Aside0.mk ((by rw [hg]; exact (below_size (by repeat (first | (with_reducible first | exact HB.out | apply below_alloc | apply pw_below_drewN | apply below_drew1) | exact HB.out))) : w.heap.size ≤ gb896)); clear HB; have HB := n0_; have BK896 := n1_; have GW896 := n2_; have GE896 := n3_; clear n0_ n1_ n2_ n3_; clear hb hbox hg))
    go_ret
    exact ⟨by first | rfl | (simp [errW_none, errW_some] <;> rfl) | (simp [*, errW_none, errW_some] <;> rfl), by repeat (first | (with_reducible first | exact HB.out | apply below_alloc | apply pw_below_drewN | apply below_drew1 | refine below_set ?_ GE896.out) | exact HB.out)⟩
  · rw [if_neg c4] at H
    have c4b0 : decide (1048576 < (l1.length : Int)) = false := decide_eq_false c4
    have c4b1 : decide (1048576 < l1.length) = false := decide_eq_false (by omega)
    clear c4
    replace H := Option.bind_eq_some_iff.mp H
    obtain ⟨t897, A60, H⟩ := H
    replace H : (if t897 < 0 then (some true) else ((laws_toField.f k a0_0 a0_1 l0_2).bind fun bt898 => ((laws_toIntS.f k l1).bind fun t903 => ((spec_AddToRegion.f k bt898.1 bt898.2.1 bt898.2.2 t903 a2).bind fun bt906 => ((laws_toField.f k a0_0 a0_1 l0_2).bind fun bt913 => ((laws_toIntS.f k l1).bind fun t919 => ((impl_AddToRegion.f k bt913.1 bt913.2.1 bt913.2.2 t919 a2).bind fun bt922 => ((laws_eqField.f k bt922.1 bt922.2.1 bt922.2.2.1 bt906.1 bt906.2.1 bt906.2.2.1).bind fun t929 => (if t929 = true then (laws_FnExactAddToRegion.j0 k l1 a2 bt906.2.2.2 t919 bt922.2.2.2 (bt922.2.2.2 != bt906.2.2.2) a0_0 a0_1 l0_2 bt906.1 bt906.2.1 bt906.2.2.1 bt913.1 bt913.2.1 bt913.2.2 bt922.1 bt922.2.1 bt922.2.2.1) else (laws_FnExactAddToRegion.j0 k l1 a2 bt906.2.2.2 t919 bt922.2.2.2 true a0_0 a0_1 l0_2 bt906.1 bt906.2.1 bt906.2.2.1 bt913.1 bt913.2.1 bt913.2.2 bt922.1 bt922.2.1 bt922.2.2.1)))))))))) = some r := H
    have A6 := Aside0.mk A60
    clear A60
    by_cases c7 : t897 < 0
    · rw [if_pos c7] at H
      have c7b0 : decide (t897 < 0) = true := decide_eq_true c7
      clear c7
      obtain rfl := Option.some.inj H
      go_enter Try.func8, Try.ntmps8
      go_wp2_with (first | ((with_reducible refine gate_dst (N := 3) rfl ?_); refine box_event ?hg (N := 3) ?hd (cs := #[.int .i64 a0_0, .int .i64 a0_1, .slice A0_2 l0_2.length c0_2]) (t := 36) ?hr ?_; (case hd => rfl); (case hg => rfl); (case hr => first | (go_simp; done) | (go_simp; rfl)); intro gb896 hg w8 hbox hb; have n0_ := Aside0.mk (below_step (by repeat (first | (with_reducible first | exact HB.out | apply below_alloc | apply pw_below_drewN | apply below_drew1) | exact HB.out)) hb); have n1_ := Aside0.mk (hbox); have n2_ := Aside0.mk ((by rw [hg]; exact (below_size (by repeat (first | (with_reducible first | exact HB.out | apply below_alloc | apply pw_below_drewN | apply below_drew1) | exact HB.out))) : w.heap.size ≤ gb896)); have n3_ := Aside0.mk ((by rw [hg]; exact (below_size (by repeat (first | (with_reducible first | exact HB.out | apply below_alloc | apply pw_below_drewN | apply below_drew1) | exact HB.out))) : w.heap.size ≤ gb896)); clear HB; have HB := n0_; have BK896 := n1_; have GW896 := n2_; have GE896 := n3_; clear n0_ n1_ n2_ n3_; clear hb hbox hg; have hcz9_0 : w8.cell? ⟨gb896, 0, none⟩ = some (.int .i64 a0_0) := (blk_cell BK896.out 0).trans rfl; have hcz9_1 : w8.cell? ⟨gb896, 1, none⟩ = some (.int .i64 a0_1) := (blk_cell BK896.out 1).trans rfl; have hcz9_2 : w8.cell? ⟨gb896, 2, none⟩ = some (.slice A0_2 l0_2.length c0_2) := (blk_cell BK896.out 2).trans rfl; have hfz9_0 := blk_frozen BK896.out 0; have hfz9_1 := blk_frozen BK896.out 1; have hfz9_2 := blk_frozen BK896.out 2) | ((with_reducible refine gate_callee (f := 20) rfl ?_); refine goesL_ (some 24) rfl rfl Try.func20 (by kernel_rfl) rfl #[.agg #[.int .i64 a0_0, .int .i64 a0_1, .slice A0_2 l0_2.length c0_2], .int .i64 1048576] rfl (by (try simp only [List.map_toArray, List.map_cons, List.map_nil]); first | done | rfl | (simp only [List.length_drop, List.length_take]; rfl)) ?_; (with_reducible refine (laws_szField.calls a0_0 a0_1 _ _ l0_2 1048576 t897 _ ?side1 ?side2 A6.out).mono ?_); (case side1 => repeat (first | exact (Kd.C_below HR0_2.out HB.out) | (with_reducible refine Kd.C_alloc ?_ _) | (with_reducible refine Kd.C_drewN ?_ _) | (with_reducible refine Kd.C_drew ?_))); (case side2 => exact HC0_2.out); rintro e w10 ⟨rfl, hb⟩; refine ⟨_, rfl, ?_⟩; have n0_ := Aside0.mk (blk_below (g := gb896) (o := .cells #[.int .i64 a0_0, .int .i64 a0_1, .slice A0_2 l0_2.length c0_2] 36 (0, 0)) BK896.out hb); have n1_ := Aside0.mk (below_step (by repeat (first | (with_reducible first | exact HB.out | apply below_alloc | apply pw_below_drewN | apply below_drew1 | refine below_set ?_ GE896.out) | exact HB.out)) hb); clear BK896; clear HB; have BK896 := n0_; have HB := n1_; clear n0_ n1_; (try clear hb); (try clear hb2); (try clear hk); (try clear hi)))
      go_ret
      exact ⟨by first | rfl | (simp [errW_none, errW_some] <;> rfl) | (simp [*, errW_none, errW_some] <;> rfl), by repeat (first | (with_reducible first | exact HB.out | apply below_alloc | apply pw_below_drewN | apply below_drew1 | refine below_set ?_ GE896.out) | exact HB.out)⟩
    · rw [if_neg c7] at H
      have c7b0 : decide (t897 < 0) = false := decide_eq_false c7
      clear c7
      replace H := Option.bind_eq_some_iff.mp H
      obtain ⟨⟨t898, t899, t900⟩, A110, H⟩ := H
      replace H : ((laws_toIntS.f k l1).bind fun t903 => ((spec_AddToRegion.f k t898 t899 t900 t903 a2).bind fun bt906 => ((laws_toField.f k a0_0 a0_1 l0_2).bind fun bt913 => ((laws_toIntS.f k l1).bind fun t919 => ((impl_AddToRegion.f k bt913.1 bt913.2.1 bt913.2.2 t919 a2).bind fun bt922 => ((laws_eqField.f k bt922.1 bt922.2.1 bt922.2.2.1 bt906.1 bt906.2.1 bt906.2.2.1).bind fun t929 => (if t929 = true then (laws_FnExactAddToRegion.j0 k l1 a2 bt906.2.2.2 t919 bt922.2.2.2 (bt922.2.2.2 != bt906.2.2.2) a0_0 a0_1 l0_2 bt906.1 bt906.2.1 bt906.2.2.1 bt913.1 bt913.2.1 bt913.2.2 bt922.1 bt922.2.1 bt922.2.2.1) else (laws_FnExactAddToRegion.j0 k l1 a2 bt906.2.2.2 t919 bt922.2.2.2 true a0_0 a0_1 l0_2 bt906.1 bt906.2.1 bt906.2.2.1 bt913.1 bt913.2.1 bt913.2.2 bt922.1 bt922.2.1 bt922.2.2.1)))))))) = some r := H
      have A11 := Aside0.mk A110
      clear A110
      replace H := Option.bind_eq_some_iff.mp H
      obtain ⟨t903, A120, H⟩ := H
      replace H : ((spec_AddToRegion.f k t898 t899 t900 t903 a2).bind fun bt906 => ((laws_toField.f k a0_0 a0_1 l0_2).bind fun bt913 => ((laws_toIntS.f k l1).bind fun t919 => ((impl_AddToRegion.f k bt913.1 bt913.2.1 bt913.2.2 t919 a2).bind fun bt922 => ((laws_eqField.f k bt922.1 bt922.2.1 bt922.2.2.1 bt906.1 bt906.2.1 bt906.2.2.1).bind fun t929 => (if t929 = true then (laws_FnExactAddToRegion.j0 k l1 a2 bt906.2.2.2 t919 bt922.2.2.2 (bt922.2.2.2 != bt906.2.2.2) a0_0 a0_1 l0_2 bt906.1 bt906.2.1 bt906.2.2.1 bt913.1 bt913.2.1 bt913.2.2 bt922.1 bt922.2.1 bt922.2.2.1) else (laws_FnExactAddToRegion.j0 k l1 a2 bt906.2.2.2 t919 bt922.2.2.2 true a0_0 a0_1 l0_2 bt906.1 bt906.2.1 bt906.2.2.1 bt913.1 bt913.2.1 bt913.2.2 bt922.1 bt922.2.1 bt922.2.2.1))))))) = some r := H
      have A12 := Aside0.mk A120
      clear A120
      replace H := Option.bind_eq_some_iff.mp H
      obtain ⟨⟨t906, t907, t908, t911⟩, A130, H⟩ := H
      replace H : ((laws_toField.f k a0_0 a0_1 l0_2).bind fun bt913 => ((laws_toIntS.f k l1).bind fun t919 => ((impl_AddToRegion.f k bt913.1 bt913.2.1 bt913.2.2 t919 a2).bind fun bt922 => ((laws_eqField.f k bt922.1 bt922.2.1 bt922.2.2.1 t906 t907 t908).bind fun t929 => (if t929 = true then (laws_FnExactAddToRegion.j0 k l1 a2 t911 t919 bt922.2.2.2 (bt922.2.2.2 != t911) a0_0 a0_1 l0_2 t906 t907 t908 bt913.1 bt913.2.1 bt913.2.2 bt922.1 bt922.2.1 bt922.2.2.1) else (laws_FnExactAddToRegion.j0 k l1 a2 t911 t919 bt922.2.2.2 true a0_0 a0_1 l0_2 t906 t907 t908 bt913.1 bt913.2.1 bt913.2.2 bt922.1 bt922.2.1 bt922.2.2.1)))))) = some r := H
      have A13 := Aside0.mk A130
      clear A130
      replace H := Option.bind_eq_some_iff.mp H
      obtain ⟨⟨t913, t914, t915⟩, A140, H⟩ := H
      replace H : ((laws_toIntS.f k l1).bind fun t919 => ((impl_AddToRegion.f k t913 t914 t915 t919 a2).bind fun bt922 => ((laws_eqField.f k bt922.1 bt922.2.1 bt922.2.2.1 t906 t907 t908).bind fun t929 => (if t929 = true then (laws_FnExactAddToRegion.j0 k l1 a2 t911 t919 bt922.2.2.2 (bt922.2.2.2 != t911) a0_0 a0_1 l0_2 t906 t907 t908 t913 t914 t915 bt922.1 bt922.2.1 bt922.2.2.1) else (laws_FnExactAddToRegion.j0 k l1 a2 t911 t919 bt922.2.2.2 true a0_0 a0_1 l0_2 t906 t907 t908 t913 t914 t915 bt922.1 bt922.2.1 bt922.2.2.1))))) = some r := H
      have A14 := Aside0.mk A140
      clear A140
      replace H := Option.bind_eq_some_iff.mp H
      obtain ⟨t919, A150, H⟩ := H
      replace H : ((impl_AddToRegion.f k t913 t914 t915 t919 a2).bind fun bt922 => ((laws_eqField.f k bt922.1 bt922.2.1 bt922.2.2.1 t906 t907 t908).bind fun t929 => (if t929 = true then (laws_FnExactAddToRegion.j0 k l1 a2 t911 t919 bt922.2.2.2 (bt922.2.2.2 != t911) a0_0 a0_1 l0_2 t906 t907 t908 t913 t914 t915 bt922.1 bt922.2.1 bt922.2.2.1) else (laws_FnExactAddToRegion.j0 k l1 a2 t911 t919 bt922.2.2.2 true a0_0 a0_1 l0_2 t906 t907 t908 t913 t914 t915 bt922.1 bt922.2.1 bt922.2.2.1)))) = some r := H
      have A15 := Aside0.mk A150
      clear A150
      replace H := Option.bind_eq_some_iff.mp H
      obtain ⟨⟨t922, t923, t924, t927⟩, A160, H⟩ := H
      replace H : ((laws_eqField.f k t922 t923 t924 t906 t907 t908).bind fun t929 => (if t929 = true then (laws_FnExactAddToRegion.j0 k l1 a2 t911 t919 t927 (t927 != t911) a0_0 a0_1 l0_2 t906 t907 t908 t913 t914 t915 t922 t923 t924) else (laws_FnExactAddToRegion.j0 k l1 a2 t911 t919 t927 true a0_0 a0_1 l0_2 t906 t907 t908 t913 t914 t915 t922 t923 t924))) = some r := H
      have A16 := Aside0.mk A160
      clear A160
      have HC17 := Aside0.mk H
      clear H
      go_enter Try.func8, Try.ntmps8
      go_upto_region 11 with (first | ((with_reducible refine gate_dst (N := 3) rfl ?_); refine box_event ?hg (N := 3) ?hd (cs := #[.int .i64 a0_0, .int .i64 a0_1, .slice A0_2 l0_2.length c0_2]) (t := 36) ?hr ?_; (case hd => rfl); (case hg => rfl); (case hr => first | (go_simp; done) | (go_simp; rfl)); intro gb896 hg w18 hbox hb; have n0_ := Aside0.mk (below_step (by repeat (first | (with_reducible first | exact HB.out | apply below_alloc | apply pw_below_drewN | apply below_drew1) | exact HB.out)) hb); have n1_ := Aside0.mk (hbox); have n2_ := Aside0.mk ((by rw [hg]; exact (below_size (by repeat (first | (with_reducible first | exact HB.out | apply below_alloc | apply pw_below_drewN | apply below_drew1) | exact HB.out))) : w.heap.size ≤ gb896)); have n3_ := Aside0.mk ((by rw [hg]; exact (below_size (by repeat (first | (with_reducible first | exact HB.out | apply below_alloc | apply pw_below_drewN | apply below_drew1) | exact HB.out))) : w.heap.size ≤ gb896)); clear HB; have HB := n0_; have BK896 := n1_; have GW896 := n2_; have GE896 := n3_; clear n0_ n1_ n2_ n3_; clear hb hbox hg; have hcz19_0 : w18.cell? ⟨gb896, 0, none⟩ = some (.int .i64 a0_0) := (blk_cell BK896.out 0).trans rfl; have hcz19_1 : w18.cell? ⟨gb896, 1, none⟩ = some (.int .i64 a0_1) := (blk_cell BK896.out 1).trans rfl; have hcz19_2 : w18.cell? ⟨gb896, 2, none⟩ = some (.slice A0_2 l0_2.length c0_2) := (blk_cell BK896.out 2).trans rfl; have hfz19_0 := blk_frozen BK896.out 0; have hfz19_1 := blk_frozen BK896.out 1; have hfz19_2 := blk_frozen BK896.out 2) | ((with_reducible refine gate_callee (f := 20) rfl ?_); refine goesL_ (some 24) rfl rfl Try.func20 (by kernel_rfl) rfl #[.agg #[.int .i64 a0_0, .int .i64 a0_1, .slice A0_2 l0_2.length c0_2], .int .i64 1048576] rfl (by (try simp only [List.map_toArray, List.map_cons, List.map_nil]); first | done | rfl | (simp only [List.length_drop, List.length_take]; rfl)) ?_; (with_reducible refine (laws_szField.calls a0_0 a0_1 _ _ l0_2 1048576 t897 _ ?side1 ?side2 A6.out).mono ?_); (case side1 => repeat (first | exact (Kd.C_below HR0_2.out HB.out) | (with_reducible refine Kd.C_alloc ?_ _) | (with_reducible refine Kd.C_drewN ?_ _) | (with_reducible refine Kd.C_drew ?_))); (case side2 => exact HC0_2.out); rintro e w20 ⟨rfl, hb⟩; refine ⟨_, rfl, ?_⟩; have n0_ := Aside0.mk (blk_below (g := gb896) (o := .cells #[.int .i64 a0_0, .int .i64 a0_1, .slice A0_2 l0_2.length c0_2] 36 (0, 0)) BK896.out hb); have n1_ := Aside0.mk (below_step (by repeat (first | (with_reducible first | exact HB.out | apply below_alloc | apply pw_below_drewN | apply below_drew1 | refine below_set ?_ GE896.out) | exact HB.out)) hb); clear BK896; clear HB; have BK896 := n0_; have HB := n1_; clear n0_ n1_; (try clear hb); (try clear hb2); (try clear hk); (try clear hi); have hcz21_0 : w20.cell? ⟨gb896, 0, none⟩ = some (.int .i64 a0_0) := (blk_cell BK896.out 0).trans rfl; have hcz21_1 : w20.cell? ⟨gb896, 1, none⟩ = some (.int .i64 a0_1) := (blk_cell BK896.out 1).trans rfl; have hcz21_2 : w20.cell? ⟨gb896, 2, none⟩ = some (.slice A0_2 l0_2.length c0_2) := (blk_cell BK896.out 2).trans rfl; have hfz21_0 := blk_frozen BK896.out 0; have hfz21_1 := blk_frozen BK896.out 1; have hfz21_2 := blk_frozen BK896.out 2) | ((with_reducible refine gate_callee (f := 22) rfl ?_); refine goesL_ (some 29) rfl rfl Try.func22 (by kernel_rfl) rfl #[.agg #[.int .i64 a0_0, .int .i64 a0_1, .slice A0_2 l0_2.length c0_2]] rfl (by (try simp only [List.map_toArray, List.map_cons, List.map_nil]); first | done | rfl | (simp only [List.length_drop, List.length_take]; rfl)) ?_; (with_reducible refine (laws_toField.calls k a0_0 a0_1 _ _ l0_2 t898 t899 t900 _ ?side1 ?side2 A11.out).mono ?_); (case side1 => repeat (first | exact (Kd.C_below HR0_2.out HB.out) | (with_reducible refine Kd.C_alloc ?_ _) | (with_reducible refine Kd.C_drewN ?_ _) | (with_reducible refine Kd.C_drew ?_))); (case side2 => exact HC0_2.out); rintro e w22 ⟨v901, rfl, ho0, hb⟩; refine ⟨_, rfl, ?_⟩; have n0_ := Aside0.mk (Kd.R_lower ho0 (below_size (by repeat (first | (with_reducible first | exact HB.out | apply below_alloc | apply pw_below_drewN | apply below_drew1 | refine below_set ?_ GE896.out) | exact HB.out)))); have n1_ := Aside0.mk (blk_below (g := gb896) (o := .cells #[.int .i64 a0_0, .int .i64 a0_1, .slice A0_2 l0_2.length c0_2] 36 (0, 0)) BK896.out hb); have n2_ := Aside0.mk (below_step (by repeat (first | (with_reducible first | exact HB.out | apply below_alloc | apply pw_below_drewN | apply below_drew1 | refine below_set ?_ GE896.out) | exact HB.out)) hb); clear BK896; clear HB; have HO902 := n0_; have BK896 := n1_; have HB := n2_; clear n0_ n1_ n2_; (try clear hb); (try clear hb2); (try clear hk); (try clear hi); (try clear ho0)) | ((with_reducible refine gate_callee (f := 23) rfl ?_); refine goesL_ (some 31) rfl rfl Try.func23 (by kernel_rfl) rfl #[.slice A1 l1.length c1] rfl (by (try simp only [List.map_toArray, List.map_cons, List.map_nil]); first | done | rfl | (simp only [List.length_drop, List.length_take]; rfl)) ?_; (with_reducible refine (laws_toIntS.calls k _ _ l1 t903 _ ?side1 ?side2 A12.out).mono ?_); (case side1 => repeat (first | exact (Kd.C_below HR1.out HB.out) | (with_reducible refine Kd.C_alloc ?_ _) | (with_reducible refine Kd.C_drewN ?_ _) | (with_reducible refine Kd.C_drew ?_))); (case side2 => exact HC1.out); rintro e w23 ⟨v904, rfl, ho0, hb⟩; refine ⟨_, rfl, ?_⟩; have n0_ := Aside0.mk (Kd.R_elder' (by (with_reducible repeat (first | apply Kd.R_alloc | apply Kd.R_drewN | apply Kd.R_drew)); exact HO902.out) (Kd.R_base ho0) hb); have n1_ := Aside0.mk (Kd.R_lower (Kd.R_new' ho0 (Kd.R_lt (by (with_reducible repeat (first | apply Kd.R_alloc | apply Kd.R_drewN | apply Kd.R_drew)); exact HO902.out))) (below_size (by repeat (first | (with_reducible first | exact HB.out | apply below_alloc | apply pw_below_drewN | apply below_drew1 | refine below_set ?_ GE896.out) | exact HB.out)))); have n2_ := Aside0.mk (blk_below (g := gb896) (o := .cells #[.int .i64 a0_0, .int .i64 a0_1, .slice A0_2 l0_2.length c0_2] 36 (0, 0)) BK896.out hb); have n3_ := Aside0.mk (below_step (by repeat (first | (with_reducible first | exact HB.out | apply below_alloc | apply pw_below_drewN | apply below_drew1 | refine below_set ?_ GE896.out) | exact HB.out)) hb); clear HO902; clear BK896; clear HB; have HO902 := n0_; have HO905 := n1_; have BK896 := n2_; have HB := n3_; clear n0_ n1_ n2_ n3_; (try clear hb); (try clear hb2); (try clear hk); (try clear hi); (try clear ho0); obtain ⟨Ao24, co24, eo24⟩ := Kd.R_slice HO902.out; subst eo24; obtain ⟨Ao25, co25, eo25⟩ := Kd.R_slice HO905.out; subst eo25) | ((with_reducible refine gate_callee (f := 32) rfl ?_); refine goesL_ (some 33) rfl rfl Try.func32 (by kernel_rfl) rfl #[.agg #[.int .i64 t898, .int .i64 t899, .slice Ao24 t900.length co24], .slice Ao25 t903.length co25, .int .i64 a2] rfl (by (try simp only [List.map_toArray, List.map_cons, List.map_nil]); first | done | rfl | (simp only [List.length_drop, List.length_take]; rfl)) ?_; (with_reducible refine (spec_AddToRegion.calls k t898 t899 _ _ t900 _ _ t903 a2 t906 t907 t908 t911 _ ?side1 ?side2 ?side3 ?side4 A13.out).mono ?_); (case side1 => repeat (first | exact (Kd.R_reads' HO902.out).2.2 | (with_reducible refine Kd.C_alloc ?_ _) | (with_reducible refine Kd.C_drewN ?_ _) | (with_reducible refine Kd.C_drew ?_))); (case side2 => exact (Kd.R_reads' HO902.out).2.1); (case side3 => repeat (first | exact (Kd.R_reads' HO905.out).2.2 | (with_reducible refine Kd.C_alloc ?_ _) | (with_reducible refine Kd.C_drewN ?_ _) | (with_reducible refine Kd.C_drew ?_))); (case side4 => exact (Kd.R_reads' HO905.out).2.1); rintro e w26 ⟨v909, rfl, ho0, hb⟩; refine ⟨_, rfl, ?_⟩; have n0_ := Aside0.mk (Kd.R_elder' (by (with_reducible repeat (first | apply Kd.R_alloc | apply Kd.R_drewN | apply Kd.R_drew)); exact HO902.out) (Kd.R_base ho0) hb); have n1_ := Aside0.mk (Kd.R_elder' (by (with_reducible repeat (first | apply Kd.R_alloc | apply Kd.R_drewN | apply Kd.R_drew)); exact HO905.out) (Kd.R_base ho0) hb); have n2_ := Aside0.mk (Kd.R_lower (Kd.R_new' (Kd.R_new' ho0 (Kd.R_lt (by (with_reducible repeat (first | apply Kd.R_alloc | apply Kd.R_drewN | apply Kd.R_drew)); exact HO902.out))) (Kd.R_lt (by (with_reducible repeat (first | apply Kd.R_alloc | apply Kd.R_drewN | apply Kd.R_drew)); exact HO905.out))) (below_size (by repeat (first | (with_reducible first | exact HB.out | apply below_alloc | apply pw_below_drewN | apply below_drew1 | refine below_set ?_ GE896.out) | exact HB.out)))); have n3_ := Aside0.mk (blk_below (g := gb896) (o := .cells #[.int .i64 a0_0, .int .i64 a0_1, .slice A0_2 l0_2.length c0_2] 36 (0, 0)) BK896.out hb); have n4_ := Aside0.mk (below_step (by repeat (first | (with_reducible first | exact HB.out | apply below_alloc | apply pw_below_drewN | apply below_drew1 | refine below_set ?_ GE896.out) | exact HB.out)) hb); clear HO902; clear HO905; clear BK896; clear HB; have HO902 := n0_; have HO905 := n1_; have HO910 := n2_; have BK896 := n3_; have HB := n4_; clear n0_ n1_ n2_ n3_ n4_; (try clear hb); (try clear hb2); (try clear hk); (try clear hi); (try clear ho0)) | ((with_reducible refine gate_dst (N := 8) rfl ?_); refine box_event ?hg (N := 8) ?hd (cs := #[.int .i64 0, .int .i64 0, .slice none 0 0]) (t := 26) ?hr ?_; (case hd => rfl); (case hg => rfl); (case hr => first | (go_simp; done) | (go_simp; rfl)); intro gb912 hg w27 hbox hb; have n0_ := Aside0.mk (Kd.R_below (by (with_reducible repeat (first | apply Kd.R_alloc | apply Kd.R_drewN | apply Kd.R_drew)); exact HO902.out) hb); have n1_ := Aside0.mk (Kd.R_below (by (with_reducible repeat (first | apply Kd.R_alloc | apply Kd.R_drewN | apply Kd.R_drew)); exact HO905.out) hb); have n2_ := Aside0.mk (Kd.R_below (by (with_reducible repeat (first | apply Kd.R_alloc | apply Kd.R_drewN | apply Kd.R_drew)); exact HO910.out) hb); have n3_ := Aside0.mk (blk_below (g := gb896) (o := .cells #[.int .i64 a0_0, .int .i64 a0_1, .slice A0_2 l0_2.length c0_2] 36 (0, 0)) BK896.out hb); have n4_ := Aside0.mk (below_step (by repeat (first | (with_reducible first | exact HB.out | apply below_alloc | apply pw_below_drewN | apply below_drew1 | refine below_set ?_ GE896.out) | exact HB.out)) hb); have n5_ := Aside0.mk (hbox); have n6_ := Aside0.mk ((by rw [hg]; exact (below_size (by repeat (first | (with_reducible first | exact HB.out | apply below_alloc | apply pw_below_drewN | apply below_drew1 | refine below_set ?_ GE896.out) | exact HB.out))) : w.heap.size ≤ gb912)); have n7_ := Aside0.mk ((by rw [hg]; exact (below_size (by repeat (first | (with_reducible first | exact HB.out | apply below_alloc | apply pw_below_drewN | apply below_drew1 | refine below_set ?_ GE896.out) | exact HB.out))) : w.heap.size ≤ gb912)); have n8_ := Aside0.mk ((by rw [hg]; exact Nat.ne_of_lt (blk_lt (g := gb896) (o := .cells #[.int .i64 a0_0, .int .i64 a0_1, .slice A0_2 l0_2.length c0_2] 36 (0, 0)) BK896.out) : gb896 ≠ gb912)); have n9_ := Aside0.mk ((by rw [hg]; exact Nat.ne_of_gt (blk_lt (g := gb896) (o := .cells #[.int .i64 a0_0, .int .i64 a0_1, .slice A0_2 l0_2.length c0_2] 36 (0, 0)) BK896.out) : gb912 ≠ gb896)); clear HO902; clear HO905; clear HO910; clear BK896; clear HB; have HO902 := n0_; have HO905 := n1_; have HO910 := n2_; have BK896 := n3_; have HB := n4_; have BK912 := n5_; have GW912 := n6_; have GE912 := n7_; have NB896_912 := n8_; have NB912_896 := n9_; clear n0_ n1_ n2_ n3_ n4_ n5_ n6_ n7_ n8_ n9_; clear hb hbox hg; have hnb28 := NB912_896.out; have hnc28 := NB896_912.out; have hcz29_0 : w27.cell? ⟨gb912, 0, none⟩ = some (.int .i64 0) := (blk_cell BK912.out 0).trans rfl; have hcz29_1 : w27.cell? ⟨gb912, 1, none⟩ = some (.int .i64 0) := (blk_cell BK912.out 1).trans rfl; have hcz29_2 : w27.cell? ⟨gb912, 2, none⟩ = some (.slice none 0 0) := (blk_cell BK912.out 2).trans rfl; have hfz29_0 := blk_frozen BK912.out 0; have hfz29_1 := blk_frozen BK912.out 1; have hfz29_2 := blk_frozen BK912.out 2; obtain ⟨Ao30, co30, eo30⟩ := Kd.R_slice HO910.out; subst eo30; have hcz31_0 : w27.cell? ⟨gb896, 0, none⟩ = some (.int .i64 a0_0) := (blk_cell BK896.out 0).trans rfl; have hcz31_1 : w27.cell? ⟨gb896, 1, none⟩ = some (.int .i64 a0_1) := (blk_cell BK896.out 1).trans rfl; have hcz31_2 : w27.cell? ⟨gb896, 2, none⟩ = some (.slice A0_2 l0_2.length c0_2) := (blk_cell BK896.out 2).trans rfl; have hfz31_0 := blk_frozen BK896.out 0; have hfz31_1 := blk_frozen BK896.out 1; have hfz31_2 := blk_frozen BK896.out 2) | ((with_reducible refine gate_callee (f := 22) rfl ?_); refine goesL_ (some 37) rfl rfl Try.func22 (by kernel_rfl) rfl #[.agg #[.int .i64 a0_0, .int .i64 a0_1, .slice A0_2 l0_2.length c0_2]] rfl (by (try simp only [List.map_toArray, List.map_cons, List.map_nil]); first | done | rfl | (simp only [List.length_drop, List.length_take]; rfl)) ?_; (with_reducible refine (laws_toField.calls k a0_0 a0_1 _ _ l0_2 t913 t914 t915 _ ?side1 ?side2 A14.out).mono ?_); (case side1 => exact Kd.C_below HR0_2.out (by repeat (first | (with_reducible first | exact HB.out | apply below_alloc | apply pw_below_drewN | apply below_drew1 | refine below_set ?_ GE896.out | refine below_set ?_ GE912.out) | exact HB.out))); (case side2 => exact HC0_2.out); rintro e w32 ⟨v916, rfl, ho0, hb⟩; refine ⟨_, rfl, ?_⟩; have n0_ := Aside0.mk (Kd.R_elder' (by (with_reducible repeat (first | apply Kd.R_alloc | apply Kd.R_drewN | apply Kd.R_drew)); exact (Kd.R_mono (Kd.R_far (p := ⟨gb912, 2, none⟩) (Kd.R_far (p := ⟨gb912, 1, none⟩) (Kd.R_far (p := ⟨gb912, 0, none⟩) (Kd.R_types HO902.out BK912.out (by decide)) (fun _ hk => hk.2) (.int .i64 t906)) (fun _ hk => hk.2) (.int .i64 t907)) (fun _ hk => hk.2) (.slice Ao30 t908.length co30)) (fun _ h_ => h_.1))) (Kd.R_base ho0) hb); have n1_ := Aside0.mk (Kd.R_elder' (by (with_reducible repeat (first | apply Kd.R_alloc | apply Kd.R_drewN | apply Kd.R_drew)); exact (Kd.R_mono (Kd.R_far (p := ⟨gb912, 2, none⟩) (Kd.R_far (p := ⟨gb912, 1, none⟩) (Kd.R_far (p := ⟨gb912, 0, none⟩) (Kd.R_types HO905.out BK912.out (by decide)) (fun _ hk => hk.2) (.int .i64 t906)) (fun _ hk => hk.2) (.int .i64 t907)) (fun _ hk => hk.2) (.slice Ao30 t908.length co30)) (fun _ h_ => h_.1))) (Kd.R_base ho0) hb); have n2_ := Aside0.mk (Kd.R_elder' (by (with_reducible repeat (first | apply Kd.R_alloc | apply Kd.R_drewN | apply Kd.R_drew)); exact (Kd.R_mono (Kd.R_far (p := ⟨gb912, 2, none⟩) (Kd.R_far (p := ⟨gb912, 1, none⟩) (Kd.R_far (p := ⟨gb912, 0, none⟩) (Kd.R_types HO910.out BK912.out (by decide)) (fun _ hk => hk.2) (.int .i64 t906)) (fun _ hk => hk.2) (.int .i64 t907)) (fun _ hk => hk.2) (.slice Ao30 t908.length co30)) (fun _ h_ => h_.1))) (Kd.R_base ho0) hb); have n3_ := Aside0.mk (Kd.R_lower (Kd.R_new' (Kd.R_new' (Kd.R_new' ho0 (Kd.R_lt (by (with_reducible repeat (first | apply Kd.R_alloc | apply Kd.R_drewN | apply Kd.R_drew)); exact (Kd.R_mono (Kd.R_far (p := ⟨gb912, 2, none⟩) (Kd.R_far (p := ⟨gb912, 1, none⟩) (Kd.R_far (p := ⟨gb912, 0, none⟩) (Kd.R_types HO902.out BK912.out (by decide)) (fun _ hk => hk.2) (.int .i64 t906)) (fun _ hk => hk.2) (.int .i64 t907)) (fun _ hk => hk.2) (.slice Ao30 t908.length co30)) (fun _ h_ => h_.1))))) (Kd.R_lt (by (with_reducible repeat (first | apply Kd.R_alloc | apply Kd.R_drewN | apply Kd.R_drew)); exact (Kd.R_mono (Kd.R_far (p := ⟨gb912, 2, none⟩) (Kd.R_far (p := ⟨gb912, 1, none⟩) (Kd.R_far (p := ⟨gb912, 0, none⟩) (Kd.R_types HO905.out BK912.out (by decide)) (fun _ hk => hk.2) (.int .i64 t906)) (fun _ hk => hk.2) (.int .i64 t907)) (fun _ hk => hk.2) (.slice Ao30 t908.length co30)) (fun _ h_ => h_.1))))) (Kd.R_lt (by (with_reducible repeat (first | apply Kd.R_alloc | apply Kd.R_drewN | apply Kd.R_drew)); exact (Kd.R_mono (Kd.R_far (p := ⟨gb912, 2, none⟩) (Kd.R_far (p := ⟨gb912, 1, none⟩) (Kd.R_far (p := ⟨gb912, 0, none⟩) (Kd.R_types HO910.out BK912.out (by decide)) (fun _ hk => hk.2) (.int .i64 t906)) (fun _ hk => hk.2) (.int .i64 t907)) (fun _ hk => hk.2) (.slice Ao30 t908.length co30)) (fun _ h_ => h_.1))))) (below_size (by repeat (first | (with_reducible first | exact HB.out | apply below_alloc | apply pw_below_drewN | apply below_drew1 | refine below_set ?_ GE896.out | refine below_set ?_ GE912.out) | exact HB.out)))); have n4_ := Aside0.mk (blk_below (g := gb896) (o := .cells #[.int .i64 a0_0, .int .i64 a0_1, .slice A0_2 l0_2.length c0_2] 36 (0, 0)) (by (with_reducible repeat (first | refine blk_drewN ?_ _ | refine blk_drew ?_ | refine blk_alloc ?_ _)); refine blk_far ?_ NB896_912.out _; (with_reducible repeat (first | refine blk_drewN ?_ _ | refine blk_drew ?_ | refine blk_alloc ?_ _)); refine blk_far ?_ NB896_912.out _; (with_reducible repeat (first | refine blk_drewN ?_ _ | refine blk_drew ?_ | refine blk_alloc ?_ _)); refine blk_far ?_ NB896_912.out _; (with_reducible repeat (first | refine blk_drewN ?_ _ | refine blk_drew ?_ | refine blk_alloc ?_ _)); exact BK896.out) hb); have n5_ := Aside0.mk (blk_below (g := gb912) (o := .cells #[.int .i64 t906, .int .i64 t907, .slice Ao30 t908.length co30] 26 (0, 0)) (by (with_reducible repeat (first | refine blk_drewN ?_ _ | refine blk_drew ?_ | refine blk_alloc ?_ _)); refine blk_put (cs := #[.int .i64 t906, .int .i64 t907, .slice none 0 0]) ?_ 2 _ rfl; (with_reducible repeat (first | refine blk_drewN ?_ _ | refine blk_drew ?_ | refine blk_alloc ?_ _)); refine blk_put (cs := #[.int .i64 t906, .int .i64 0, .slice none 0 0]) ?_ 1 _ rfl; (with_reducible repeat (first | refine blk_drewN ?_ _ | refine blk_drew ?_ | refine blk_alloc ?_ _)); refine blk_put (cs := #[.int .i64 0, .int .i64 0, .slice none 0 0]) ?_ 0 _ rfl; (with_reducible repeat (first | refine blk_drewN ?_ _ | refine blk_drew ?_ | refine blk_alloc ?_ _)); exact BK912.out) hb); have n6_ := Aside0.mk (below_step (by repeat (first | (with_reducible first | exact HB.out | apply below_alloc | apply pw_below_drewN | apply below_drew1 | refine below_set ?_ GE896.out | refine below_set ?_ GE912.out) | exact HB.out)) hb); clear HO902; clear HO905; clear HO910; clear BK896; clear BK912; clear HB; have HO902 := n0_; have HO905 := n1_; have HO910 := n2_; have HO917 := n3_; have BK896 := n4_; have BK912 := n5_; have HB := n6_; clear n0_ n1_ n2_ n3_ n4_ n5_ n6_; (try clear hb); (try clear hb2); (try clear hk); (try clear hi); (try clear ho0)) | ((with_reducible refine gate_dst (N := 10) rfl ?_); refine box_event ?hg (N := 10) ?hd (cs := #[.int .i64 0, .int .i64 0, .slice none 0 0]) (t := 26) ?hr ?_; (case hd => rfl); (case hg => rfl); (case hr => first | (go_simp; done) | (go_simp; rfl)); intro gb918 hg w33 hbox hb; have n0_ := Aside0.mk (Kd.R_below (by (with_reducible repeat (first | apply Kd.R_alloc | apply Kd.R_drewN | apply Kd.R_drew)); exact HO902.out) hb); have n1_ := Aside0.mk (Kd.R_below (by (with_reducible repeat (first | apply Kd.R_alloc | apply Kd.R_drewN | apply Kd.R_drew)); exact HO905.out) hb); have n2_ := Aside0.mk (Kd.R_below (by (with_reducible repeat (first | apply Kd.R_alloc | apply Kd.R_drewN | apply Kd.R_drew)); exact HO910.out) hb); have n3_ := Aside0.mk (Kd.R_below (by (with_reducible repeat (first | apply Kd.R_alloc | apply Kd.R_drewN | apply Kd.R_drew)); exact HO917.out) hb); have n4_ := Aside0.mk (blk_below (g := gb896) (o := .cells #[.int .i64 a0_0, .int .i64 a0_1, .slice A0_2 l0_2.length c0_2] 36 (0, 0)) BK896.out hb); have n5_ := Aside0.mk (blk_below (g := gb912) (o := .cells #[.int .i64 t906, .int .i64 t907, .slice Ao30 t908.length co30] 26 (0, 0)) BK912.out hb); have n6_ := Aside0.mk (below_step (by repeat (first | (with_reducible first | exact HB.out | apply below_alloc | apply pw_below_drewN | apply below_drew1 | refine below_set ?_ GE896.out | refine below_set ?_ GE912.out) | exact HB.out)) hb); have n7_ := Aside0.mk (hbox); have n8_ := Aside0.mk ((by rw [hg]; exact (below_size (by repeat (first | (with_reducible first | exact HB.out | apply below_alloc | apply pw_below_drewN | apply below_drew1 | refine below_set ?_ GE896.out | refine below_set ?_ GE912.out) | exact HB.out))) : w.heap.size ≤ gb918)); have n9_ := Aside0.mk ((by rw [hg]; exact (below_size (by repeat (first | (with_reducible first | exact HB.out | apply below_alloc | apply pw_below_drewN | apply below_drew1 | refine below_set ?_ GE896.out | refine below_set ?_ GE912.out) | exact HB.out))) : w.heap.size ≤ gb918)); have n10_ := Aside0.mk ((by rw [hg]; exact Nat.ne_of_lt (blk_lt (g := gb896) (o := .cells #[.int .i64 a0_0, .int .i64 a0_1, .slice A0_2 l0_2.length c0_2] 36 (0, 0)) BK896.out) : gb896 ≠ gb918)); have n11_ := Aside0.mk ((by rw [hg]; exact Nat.ne_of_gt (blk_lt (g := gb896) (o := .cells #[.int .i64 a0_0, .int .i64 a0_1, .slice A0_2 l0_2.length c0_2] 36 (0, 0)) BK896.out) : gb918 ≠ gb896)); have n12_ := Aside0.mk ((by rw [hg]; exact Nat.ne_of_lt (blk_lt (g := gb912) (o := .cells #[.int .i64 t906, .int .i64 t907, .slice Ao30 t908.length co30] 26 (0, 0)) BK912.out) : gb912 ≠ gb918)); have n13_ := Aside0.mk ((by rw [hg]; exact Nat.ne_of_gt (blk_lt (g := gb912) (o := .cells #[.int .i64 t906, .int .i64 t907, .slice Ao30 t908.length co30] 26 (0, 0)) BK912.out) : gb918 ≠ gb912)); clear HO902; clear HO905; clear HO910; clear HO917; clear BK896; clear BK912; clear HB; have HO902 := n0_; have HO905 := n1_; have HO910 := n2_; have HO917 := n3_; have BK896 := n4_; have BK912 := n5_; have HB := n6_; have BK918 := n7_; have GW918 := n8_; have GE918 := n9_; have NB896_918 := n10_; have NB918_896 := n11_; have NB912_918 := n12_; have NB918_912 := n13_; clear n0_ n1_ n2_ n3_ n4_ n5_ n6_ n7_ n8_ n9_ n10_ n11_ n12_ n13_; clear hb hbox hg; have hnb34 := NB918_896.out; have hnc34 := NB896_918.out; have hnb35 := NB918_912.out; have hnc35 := NB912_918.out; have hcz36_0 : w33.cell? ⟨gb918, 0, none⟩ = some (.int .i64 0) := (blk_cell BK918.out 0).trans rfl; have hcz36_1 : w33.cell? ⟨gb918, 1, none⟩ = some (.int .i64 0) := (blk_cell BK918.out 1).trans rfl; have hcz36_2 : w33.cell? ⟨gb918, 2, none⟩ = some (.slice none 0 0) := (blk_cell BK918.out 2).trans rfl; have hfz36_0 := blk_frozen BK918.out 0; have hfz36_1 := blk_frozen BK918.out 1; have hfz36_2 := blk_frozen BK918.out 2; obtain ⟨Ao37, co37, eo37⟩ := Kd.R_slice HO917.out; subst eo37) | ((with_reducible refine gate_callee (f := 23) rfl ?_); refine goesL_ (some 39) rfl rfl Try.func23 (by kernel_rfl) rfl #[.slice A1 l1.length c1] rfl (by (try simp only [List.map_toArray, List.map_cons, List.map_nil]); first | done | rfl | (simp only [List.length_drop, List.length_take]; rfl)) ?_; (with_reducible refine (laws_toIntS.calls k _ _ l1 t919 _ ?side1 ?side2 A15.out).mono ?_); (case side1 => exact Kd.C_below HR1.out (by repeat (first | (with_reducible first | exact HB.out | apply below_alloc | apply pw_below_drewN | apply below_drew1 | refine below_set ?_ GE896.out | refine below_set ?_ GE912.out | refine below_set ?_ GE918.out) | exact HB.out))); (case side2 => exact HC1.out); rintro e w38 ⟨v920, rfl, ho0, hb⟩; refine ⟨_, rfl, ?_⟩; have n0_ := Aside0.mk (Kd.R_elder' (by (with_reducible repeat (first | apply Kd.R_alloc | apply Kd.R_drewN | apply Kd.R_drew)); exact (Kd.R_mono (Kd.R_far (p := ⟨gb918, 2, none⟩) (Kd.R_far (p := ⟨gb918, 1, none⟩) (Kd.R_far (p := ⟨gb918, 0, none⟩) (Kd.R_types HO902.out BK918.out (by decide)) (fun _ hk => hk.2) (.int .i64 t913)) (fun _ hk => hk.2) (.int .i64 t914)) (fun _ hk => hk.2) (.slice Ao37 t915.length co37)) (fun _ h_ => h_.1))) (Kd.R_base ho0) hb); have n1_ := Aside0.mk (Kd.R_elder' (by (with_reducible repeat (first | apply Kd.R_alloc | apply Kd.R_drewN | apply Kd.R_drew)); exact (Kd.R_mono (Kd.R_far (p := ⟨gb918, 2, none⟩) (Kd.R_far (p := ⟨gb918, 1, none⟩) (Kd.R_far (p := ⟨gb918, 0, none⟩) (Kd.R_types HO905.out BK918.out (by decide)) (fun _ hk => hk.2) (.int .i64 t913)) (fun _ hk => hk.2) (.int .i64 t914)) (fun _ hk => hk.2) (.slice Ao37 t915.length co37)) (fun _ h_ => h_.1))) (Kd.R_base ho0) hb); have n2_ := Aside0.mk (Kd.R_elder' (by (with_reducible repeat (first | apply Kd.R_alloc | apply Kd.R_drewN | apply Kd.R_drew)); exact (Kd.R_mono (Kd.R_far (p := ⟨gb918, 2, none⟩) (Kd.R_far (p := ⟨gb918, 1, none⟩) (Kd.R_far (p := ⟨gb918, 0, none⟩) (Kd.R_types HO910.out BK918.out (by decide)) (fun _ hk => hk.2) (.int .i64 t913)) (fun _ hk => hk.2) (.int .i64 t914)) (fun _ hk => hk.2) (.slice Ao37 t915.length co37)) (fun _ h_ => h_.1))) (Kd.R_base ho0) hb); have n3_ := Aside0.mk (Kd.R_elder' (by (with_reducible repeat (first | apply Kd.R_alloc | apply Kd.R_drewN | apply Kd.R_drew)); exact (Kd.R_mono (Kd.R_far (p := ⟨gb918, 2, none⟩) (Kd.R_far (p := ⟨gb918, 1, none⟩) (Kd.R_far (p := ⟨gb918, 0, none⟩) (Kd.R_types HO917.out BK918.out (by decide)) (fun _ hk => hk.2) (.int .i64 t913)) (fun _ hk => hk.2) (.int .i64 t914)) (fun _ hk => hk.2) (.slice Ao37 t915.length co37)) (fun _ h_ => h_.1))) (Kd.R_base ho0) hb); have n4_ := Aside0.mk (Kd.R_lower (Kd.R_new' (Kd.R_new' (Kd.R_new' (Kd.R_new' ho0 (Kd.R_lt (by (with_reducible repeat (first | apply Kd.R_alloc | apply Kd.R_drewN | apply Kd.R_drew)); exact (Kd.R_mono (Kd.R_far (p := ⟨gb918, 2, none⟩) (Kd.R_far (p := ⟨gb918, 1, none⟩) (Kd.R_far (p := ⟨gb918, 0, none⟩) (Kd.R_types HO902.out BK918.out (by decide)) (fun _ hk => hk.2) (.int .i64 t913)) (fun _ hk => hk.2) (.int .i64 t914)) (fun _ hk => hk.2) (.slice Ao37 t915.length co37)) (fun _ h_ => h_.1))))) (Kd.R_lt (by (with_reducible repeat (first | apply Kd.R_alloc | apply Kd.R_drewN | apply Kd.R_drew)); exact (Kd.R_mono (Kd.R_far (p := ⟨gb918, 2, none⟩) (Kd.R_far (p := ⟨gb918, 1, none⟩) (Kd.R_far (p := ⟨gb918, 0, none⟩) (Kd.R_types HO905.out BK918.out (by decide)) (fun _ hk => hk.2) (.int .i64 t913)) (fun _ hk => hk.2) (.int .i64 t914)) (fun _ hk => hk.2) (.slice Ao37 t915.length co37)) (fun _ h_ => h_.1))))) (Kd.R_lt (by (with_reducible repeat (first | apply Kd.R_alloc | apply Kd.R_drewN | apply Kd.R_drew)); exact (Kd.R_mono (Kd.R_far (p := ⟨gb918, 2, none⟩) (Kd.R_far (p := ⟨gb918, 1, none⟩) (Kd.R_far (p := ⟨gb918, 0, none⟩) (Kd.R_types HO910.out BK918.out (by decide)) (fun _ hk => hk.2) (.int .i64 t913)) (fun _ hk => hk.2) (.int .i64 t914)) (fun _ hk => hk.2) (.slice Ao37 t915.length co37)) (fun _ h_ => h_.1))))) (Kd.R_lt (by (with_reducible repeat (first | apply Kd.R_alloc | apply Kd.R_drewN | apply Kd.R_drew)); exact (Kd.R_mono (Kd.R_far (p := ⟨gb918, 2, none⟩) (Kd.R_far (p := ⟨gb918, 1, none⟩) (Kd.R_far (p := ⟨gb918, 0, none⟩) (Kd.R_types HO917.out BK918.out (by decide)) (fun _ hk => hk.2) (.int .i64 t913)) (fun _ hk => hk.2) (.int .i64 t914)) (fun _ hk => hk.2) (.slice Ao37 t915.length co37)) (fun _ h_ => h_.1))))) (below_size (by repeat (first | (with_reducible first | exact HB.out | apply below_alloc | apply pw_below_drewN | apply below_drew1 | refine below_set ?_ GE896.out | refine below_set ?_ GE912.out | refine below_set ?_ GE918.out) | exact HB.out)))); have n5_ := Aside0.mk (blk_below (g := gb896) (o := .cells #[.int .i64 a0_0, .int .i64 a0_1, .slice A0_2 l0_2.length c0_2] 36 (0, 0)) (by (with_reducible repeat (first | refine blk_drewN ?_ _ | refine blk_drew ?_ | refine blk_alloc ?_ _)); refine blk_far ?_ NB896_918.out _; (with_reducible repeat (first | refine blk_drewN ?_ _ | refine blk_drew ?_ | refine blk_alloc ?_ _)); refine blk_far ?_ NB896_918.out _; (with_reducible repeat (first | refine blk_drewN ?_ _ | refine blk_drew ?_ | refine blk_alloc ?_ _)); refine blk_far ?_ NB896_918.out _; (with_reducible repeat (first | refine blk_drewN ?_ _ | refine blk_drew ?_ | refine blk_alloc ?_ _)); exact BK896.out) hb); have n6_ := Aside0.mk (blk_below (g := gb912) (o := .cells #[.int .i64 t906, .int .i64 t907, .slice Ao30 t908.length co30] 26 (0, 0)) (by (with_reducible repeat (first | refine blk_drewN ?_ _ | refine blk_drew ?_ | refine blk_alloc ?_ _)); refine blk_far ?_ NB912_918.out _; (with_reducible repeat (first | refine blk_drewN ?_ _ | refine blk_drew ?_ | refine blk_alloc ?_ _)); refine blk_far ?_ NB912_918.out _; (with_reducible repeat (first | refine blk_drewN ?_ _ | refine blk_drew ?_ | refine blk_alloc ?_ _)); refine blk_far ?_ NB912_918.out _; (with_reducible repeat (first | refine blk_drewN ?_ _ | refine blk_drew ?_ | refine blk_alloc ?_ _)); exact BK912.out) hb); have n7_ := Aside0.mk (blk_below (g := gb918) (o := .cells #[.int .i64 t913, .int .i64 t914, .slice Ao37 t915.length co37] 26 (0, 0)) (by (with_reducible repeat (first | refine blk_drewN ?_ _ | refine blk_drew ?_ | refine blk_alloc ?_ _)); refine blk_put (cs := #[.int .i64 t913, .int .i64 t914, .slice none 0 0]) ?_ 2 _ rfl; (with_reducible repeat (first | refine blk_drewN ?_ _ | refine blk_drew ?_ | refine blk_alloc ?_ _)); refine blk_put (cs := #[.int .i64 t913, .int .i64 0, .slice none 0 0]) ?_ 1 _ rfl; (with_reducible repeat (first | refine blk_drewN ?_ _ | refine blk_drew ?_ | refine blk_alloc ?_ _)); refine blk_put (cs := #[.int .i64 0, .int .i64 0, .slice none 0 0]) ?_ 0 _ rfl; (with_reducible repeat (first | refine blk_drewN ?_ _ | refine blk_drew ?_ | refine blk_alloc ?_ _)); exact BK918.out) hb); have n8_ := Aside0.mk (below_step (by repeat (first | (with_reducible first | exact HB.out | apply below_alloc | apply pw_below_drewN | apply below_drew1 | refine below_set ?_ GE896.out | refine below_set ?_ GE912.out | refine below_set ?_ GE918.out) | exact HB.out)) hb); clear HO902; clear HO905; clear HO910; clear HO917; clear BK896; clear BK912; clear BK918; clear HB; have HO902 := n0_; have HO905 := n1_; have HO910 := n2_; have HO917 := n3_; have HO921 := n4_; have BK896 := n5_; have BK912 := n6_; have BK918 := n7_; have HB := n8_; clear n0_ n1_ n2_ n3_ n4_ n5_ n6_ n7_ n8_; (try clear hb); (try clear hb2); (try clear hk); (try clear hi); (try clear ho0); have hcz39_0 : w38.cell? ⟨gb918, 0, none⟩ = some (.int .i64 t913) := (blk_cell BK918.out 0).trans rfl; have hcz39_1 : w38.cell? ⟨gb918, 1, none⟩ = some (.int .i64 t914) := (blk_cell BK918.out 1).trans rfl; have hcz39_2 : w38.cell? ⟨gb918, 2, none⟩ = some (.slice Ao37 t915.length co37) := (blk_cell BK918.out 2).trans rfl; have hfz39_0 := blk_frozen BK918.out 0; have hfz39_1 := blk_frozen BK918.out 1; have hfz39_2 := blk_frozen BK918.out 2; obtain ⟨Ao40, co40, eo40⟩ := Kd.R_slice HO921.out; subst eo40) | ((with_reducible refine gate_callee (f := 33) rfl ?_); refine goesL_ (some 44) rfl rfl Try.func33 (by kernel_rfl) rfl #[.agg #[.int .i64 t913, .int .i64 t914, .slice Ao37 t915.length co37], .slice Ao40 t919.length co40, .int .i64 a2] rfl (by (try simp only [List.map_toArray, List.map_cons, List.map_nil]); first | done | rfl | (simp only [List.length_drop, List.length_take]; rfl)) ?_; (with_reducible refine (impl_AddToRegion.calls k t913 t914 _ _ t915 _ _ t919 a2 t922 t923 t924 t927 _ ?side1 ?side2 ?side3 ?side4 A16.out).mono ?_); (case side1 => repeat (first | exact (Kd.R_reads' HO917.out).2.2 | (with_reducible refine Kd.C_alloc ?_ _) | (with_reducible refine Kd.C_drewN ?_ _) | (with_reducible refine Kd.C_drew ?_))); (case side2 => exact (Kd.R_reads' HO917.out).2.1); (case side3 => repeat (first | exact (Kd.R_reads' HO921.out).2.2 | (with_reducible refine Kd.C_alloc ?_ _) | (with_reducible refine Kd.C_drewN ?_ _) | (with_reducible refine Kd.C_drew ?_))); (case side4 => exact (Kd.R_reads' HO921.out).2.1); rintro e w41 ⟨v925, rfl, ho0, hb⟩; refine ⟨_, rfl, ?_⟩; have n0_ := Aside0.mk (Kd.R_elder' (by (with_reducible repeat (first | apply Kd.R_alloc | apply Kd.R_drewN | apply Kd.R_drew)); exact HO902.out) (Kd.R_base ho0) hb); have n1_ := Aside0.mk (Kd.R_elder' (by (with_reducible repeat (first | apply Kd.R_alloc | apply Kd.R_drewN | apply Kd.R_drew)); exact HO905.out) (Kd.R_base ho0) hb); have n2_ := Aside0.mk (Kd.R_elder' (by (with_reducible repeat (first | apply Kd.R_alloc | apply Kd.R_drewN | apply Kd.R_drew)); exact HO910.out) (Kd.R_base ho0) hb); have n3_ := Aside0.mk (Kd.R_elder' (by (with_reducible repeat (first | apply Kd.R_alloc | apply Kd.R_drewN | apply Kd.R_drew)); exact HO917.out) (Kd.R_base ho0) hb); have n4_ := Aside0.mk (Kd.R_elder' (by (with_reducible repeat (first | apply Kd.R_alloc | apply Kd.R_drewN | apply Kd.R_drew)); exact HO921.out) (Kd.R_base ho0) hb); have n5_ := Aside0.mk (Kd.R_lower (Kd.R_new' (Kd.R_new' (Kd.R_new' (Kd.R_new' (Kd.R_new' ho0 (Kd.R_lt (by (with_reducible repeat (first | apply Kd.R_alloc | apply Kd.R_drewN | apply Kd.R_drew)); exact HO902.out))) (Kd.R_lt (by (with_reducible repeat (first | apply Kd.R_alloc | apply Kd.R_drewN | apply Kd.R_drew)); exact HO905.out))) (Kd.R_lt (by (with_reducible repeat (first | apply Kd.R_alloc | apply Kd.R_drewN | apply Kd.R_drew)); exact HO910.out))) (Kd.R_lt (by (with_reducible repeat (first | apply Kd.R_alloc | apply Kd.R_drewN | apply Kd.R_drew)); exact HO917.out))) (Kd.R_lt (by (with_reducible repeat (first | apply Kd.R_alloc | apply Kd.R_drewN | apply Kd.R_drew)); exact HO921.out))) (below_size (by repeat (first | (with_reducible first | exact HB.out | apply below_alloc | apply pw_below_drewN | apply below_drew1 | refine below_set ?_ GE896.out | refine below_set ?_ GE912.out | refine below_set ?_ GE918.out) | exact HB.out)))); have n6_ := Aside0.mk (blk_below (g := gb896) (o := .cells #[.int .i64 a0_0, .int .i64 a0_1, .slice A0_2 l0_2.length c0_2] 36 (0, 0)) BK896.out hb); have n7_ := Aside0.mk (blk_below (g := gb912) (o := .cells #[.int .i64 t906, .int .i64 t907, .slice Ao30 t908.length co30] 26 (0, 0)) BK912.out hb); have n8_ := Aside0.mk (blk_below (g := gb918) (o := .cells #[.int .i64 t913, .int .i64 t914, .slice Ao37 t915.length co37] 26 (0, 0)) BK918.out hb); have n9_ := Aside0.mk (below_step (by repeat (first | (with_reducible first | exact HB.out | apply below_alloc | apply pw_below_drewN | apply below_drew1 | refine below_set ?_ GE896.out | refine below_set ?_ GE912.out | refine below_set ?_ GE918.out) | exact HB.out)) hb); clear HO902; clear HO905; clear HO910; clear HO917; clear HO921; clear BK896; clear BK912; clear BK918; clear HB; have HO902 := n0_; have HO905 := n1_; have HO910 := n2_; have HO917 := n3_; have HO921 := n4_; have HO926 := n5_; have BK896 := n6_; have BK912 := n7_; have BK918 := n8_; have HB := n9_; clear n0_ n1_ n2_ n3_ n4_ n5_ n6_ n7_ n8_ n9_; (try clear hb); (try clear hb2); (try clear hk); (try clear hi); (try clear ho0)) | ((with_reducible refine gate_dst (N := 12) rfl ?_); refine box_event ?hg (N := 12) ?hd (cs := #[.int .i64 0, .int .i64 0, .slice none 0 0]) (t := 26) ?hr ?_; (case hd => rfl); (case hg => rfl); (case hr => first | (go_simp; done) | (go_simp; rfl)); intro gb928 hg w42 hbox hb; have n0_ := Aside0.mk (Kd.R_below (by (with_reducible repeat (first | apply Kd.R_alloc | apply Kd.R_drewN | apply Kd.R_drew)); exact HO902.out) hb); have n1_ := Aside0.mk (Kd.R_below (by (with_reducible repeat (first | apply Kd.R_alloc | apply Kd.R_drewN | apply Kd.R_drew)); exact HO905.out) hb); have n2_ := Aside0.mk (Kd.R_below (by (with_reducible repeat (first | apply Kd.R_alloc | apply Kd.R_drewN | apply Kd.R_drew)); exact HO910.out) hb); have n3_ := Aside0.mk (Kd.R_below (by (with_reducible repeat (first | apply Kd.R_alloc | apply Kd.R_drewN | apply Kd.R_drew)); exact HO917.out) hb); have n4_ := Aside0.mk (Kd.R_below (by (with_reducible repeat (first | apply Kd.R_alloc | apply Kd.R_drewN | apply Kd.R_drew)); exact HO921.out) hb); have n5_ := Aside0.mk (Kd.R_below (by (with_reducible repeat (first | apply Kd.R_alloc | apply Kd.R_drewN | apply Kd.R_drew)); exact HO926.out) hb); have n6_ := Aside0.mk (blk_below (g := gb896) (o := .cells #[.int .i64 a0_0, .int .i64 a0_1, .slice A0_2 l0_2.length c0_2] 36 (0, 0)) BK896.out hb); have n7_ := Aside0.mk (blk_below (g := gb912) (o := .cells #[.int .i64 t906, .int .i64 t907, .slice Ao30 t908.length co30] 26 (0, 0)) BK912.out hb); have n8_ := Aside0.mk (blk_below (g := gb918) (o := .cells #[.int .i64 t913, .int .i64 t914, .slice Ao37 t915.length co37] 26 (0, 0)) BK918.out hb); have n9_ := Aside0.mk (below_step (by repeat (first | (with_reducible first | exact HB.out | apply below_alloc | apply pw_below_drewN | apply below_drew1 | refine below_set ?_ GE896.out | refine below_set ?_ GE912.out | refine below_set ?_ GE918.out) | exact HB.out)) hb); have n10_ := Aside0.mk (hbox); have n11_ := Aside0.mk ((by rw [hg]; exact (below_size (by repeat (first | (with_reducible first | exact HB.out | apply below_alloc | apply pw_below_drewN | apply below_drew1 | refine below_set ?_ GE896.out | refine below_set ?_ GE912.out | refine below_set ?_ GE918.out) | exact HB.out))) : w.heap.size ≤ gb928)); have n12_ := Aside0.mk ((by rw [hg]; exact (below_size (by repeat (first | (with_reducible first | exact HB.out | apply below_alloc | apply pw_below_drewN | apply below_drew1 | refine below_set ?_ GE896.out | refine below_set ?_ GE912.out | refine below_set ?_ GE918.out) | exact HB.out))) : w.heap.size ≤ gb928)); have n13_ := Aside0.mk ((by rw [hg]; exact Nat.ne_of_lt (blk_lt (g := gb896) (o := .cells #[.int .i64 a0_0, .int .i64 a0_1, .slice A0_2 l0_2.length c0_2] 36 (0, 0)) BK896.out) : gb896 ≠ gb928)); have n14_ := Aside0.mk ((by rw [hg]; exact Nat.ne_of_gt (blk_lt (g := gb896) (o := .cells #[.int .i64 a0_0, .int .i64 a0_1, .slice A0_2 l0_2.length c0_2] 36 (0, 0)) BK896.out) : gb928 ≠ gb896)); have n15_ := Aside0.mk ((by rw [hg]; exact Nat.ne_of_lt (blk_lt (g := gb912) (o := .cells #[.int .i64 t906, .int .i64 t907, .slice Ao30 t908.length co30] 26 (0, 0)) BK912.out) : gb912 ≠ gb928)); have n16_ := Aside0.mk ((by rw [hg]; exact Nat.ne_of_gt (blk_lt (g := gb912) (o := .cells #[.int .i64 t906, .int .i64 t907, .slice Ao30 t908.length co30] 26 (0, 0)) BK912.out) : gb928 ≠ gb912)); have n17_ := Aside0.mk ((by rw [hg]; exact Nat.ne_of_lt (blk_lt (g := gb918) (o := .cells #[.int .i64 t913, .int .i64 t914, .slice Ao37 t915.length co37] 26 (0, 0)) BK918.out) : gb918 ≠ gb928)); have n18_ := Aside0.mk ((by rw [hg]; exact Nat.ne_of_gt (blk_lt (g := gb918) (o := .cells #[.int .i64 t913, .int .i64 t914, .slice Ao37 t915.length co37] 26 (0, 0)) BK918.out) : gb928 ≠ gb918)); clear HO902; clear HO905; clear HO910; clear HO917; clear HO921; clear HO926; clear BK896; clear BK912; clear BK918; clear HB; have HO902 := n0_; have HO905 := n1_; have HO910 := n2_; have HO917 := n3_; have HO921 := n4_; have HO926 := n5_; have BK896 := n6_; have BK912 := n7_; have BK918 := n8_; have HB := n9_; have BK928 := n10_; have GW928 := n11_; have GE928 := n12_; have NB896_928 := n13_; have NB928_896 := n14_; have NB912_928 := n15_; have NB928_912 := n16_; have NB918_928 := n17_; have NB928_918 := n18_; clear n0_ n1_ n2_ n3_ n4_ n5_ n6_ n7_ n8_ n9_ n10_ n11_ n12_ n13_ n14_ n15_ n16_ n17_ n18_; clear hb hbox hg; have hnb43 := NB928_896.out; have hnc43 := NB896_928.out; have hnb44 := NB928_912.out; have hnc44 := NB912_928.out; have hnb45 := NB928_918.out; have hnc45 := NB918_928.out; have hcz46_0 : w42.cell? ⟨gb928, 0, none⟩ = some (.int .i64 0) := (blk_cell BK928.out 0).trans rfl; have hcz46_1 : w42.cell? ⟨gb928, 1, none⟩ = some (.int .i64 0) := (blk_cell BK928.out 1).trans rfl; have hcz46_2 : w42.cell? ⟨gb928, 2, none⟩ = some (.slice none 0 0) := (blk_cell BK928.out 2).trans rfl; have hfz46_0 := blk_frozen BK928.out 0; have hfz46_1 := blk_frozen BK928.out 1; have hfz46_2 := blk_frozen BK928.out 2; obtain ⟨Ao47, co47, eo47⟩ := Kd.R_slice HO926.out; subst eo47))
      (try simp only [Act.put, List.setIfInBounds_toArray, List.set_cons_zero, List.set_cons_succ])
      go_cut [55] (fun v55 wc => ∃ (kq : Nat) (x55_16 : Bool), v55 = .bool x55_16 ∧ Aside0 (laws_FnExactAddToRegion.j0 kq l1 a2 t911 t919 t927 x55_16 a0_0 a0_1 l0_2 t906 t907 t908 t913 t914 t915 t922 t923 t924 = some r) ∧ Aside0 (kq ≤ k) ∧ Aside0 (Kd.R (Kd.int .i64) 3 wc w.heap.size (fun k_ => some k_ ≠ ((.slice Ao30 t908.length co30) : Value).ownBlock ∧ some k_ ≠ ((.slice Ao37 t915.length co37) : Value).ownBlock ∧ some k_ ≠ ((.slice Ao47 t924.length co47) : Value).ownBlock) (.slice Ao40 t919.length co40) t919) ∧ Aside0 (Kd.R (Kd.int .i64) 3 wc w.heap.size (fun k_ => some k_ ≠ ((.slice Ao40 t919.length co40) : Value).ownBlock ∧ some k_ ≠ ((.slice Ao37 t915.length co37) : Value).ownBlock ∧ some k_ ≠ ((.slice Ao47 t924.length co47) : Value).ownBlock) (.slice Ao30 t908.length co30) t908) ∧ Aside0 (Kd.R (Kd.int .i64) 3 wc w.heap.size (fun k_ => some k_ ≠ ((.slice Ao40 t919.length co40) : Value).ownBlock ∧ some k_ ≠ ((.slice Ao30 t908.length co30) : Value).ownBlock ∧ some k_ ≠ ((.slice Ao47 t924.length co47) : Value).ownBlock) (.slice Ao37 t915.length co37) t915) ∧ Aside0 (Kd.R (Kd.int .i64) 3 wc w.heap.size (fun k_ => some k_ ≠ ((.slice Ao40 t919.length co40) : Value).ownBlock ∧ some k_ ≠ ((.slice Ao30 t908.length co30) : Value).ownBlock ∧ some k_ ≠ ((.slice Ao37 t915.length co37) : Value).ownBlock) (.slice Ao47 t924.length co47) t924) ∧ Aside0 (wc.heap[gb896]? = some (.cells #[.int .i64 a0_0, .int .i64 a0_1, (.slice A0_2 l0_2.length c0_2)] 36 (0, 0))) ∧ Aside0 (wc.heap[gb912]? = some (.cells #[.int .i64 t906, .int .i64 t907, (.slice Ao30 t908.length co30)] 26 (0, 0))) ∧ Aside0 (wc.heap[gb918]? = some (.cells #[.int .i64 t913, .int .i64 t914, (.slice Ao37 t915.length co37)] 26 (0, 0))) ∧ Aside0 (wc.heap[gb928]? = some (.cells #[.int .i64 t922, .int .i64 t923, (.slice Ao47 t924.length co47)] 26 (0, 0))) ∧ Aside0 (Below w.heap.size w wc))
      case first =>
        as_aux_lemma =>
          have H := HC17.out
          clear HC17
          replace H := Option.bind_eq_some_iff.mp H
          obtain ⟨t929, A480, H⟩ := H
          replace H : (if t929 = true then (laws_FnExactAddToRegion.j0 k l1 a2 t911 t919 t927 (t927 != t911) a0_0 a0_1 l0_2 t906 t907 t908 t913 t914 t915 t922 t923 t924) else (laws_FnExactAddToRegion.j0 k l1 a2 t911 t919 t927 true a0_0 a0_1 l0_2 t906 t907 t908 t913 t914 t915 t922 t923 t924)) = some r := H
          have A48 := Aside0.mk A480
          clear A480
          by_cases c49 : t929 = true
          · subst c49
            have H1 : (laws_FnExactAddToRegion.j0 k l1 a2 t911 t919 t927 (t927 != t911) a0_0 a0_1 l0_2 t906 t907 t908 t913 t914 t915 t922 t923 t924) = some r := by rw [if_pos rfl] at H; exact H
            clear H
            have H := H1
            clear H1
            have H' := Aside0.mk H
            clear H
            have hnb50 := NB928_896.out
            have hnc50 := NB896_928.out
            have hnb51 := NB928_912.out
            have hnc51 := NB912_928.out
            have hnb52 := NB928_918.out
            have hnc52 := NB918_928.out
            have hcz53_0 : w42.cell? ⟨gb928, 0, none⟩ = some (.int .i64 0) := (blk_cell BK928.out 0).trans rfl
            have hcz53_1 : w42.cell? ⟨gb928, 1, none⟩ = some (.int .i64 0) := (blk_cell BK928.out 1).trans rfl
            have hcz53_2 : w42.cell? ⟨gb928, 2, none⟩ = some (.slice none 0 0) := (blk_cell BK928.out 2).trans rfl
            have hfz53_0 := blk_frozen BK928.out 0
            have hfz53_1 := blk_frozen BK928.out 1
            have hfz53_2 := blk_frozen BK928.out 2
            have hnb54 := NB912_896.out
            have hnc54 := NB896_912.out
            have hnb55 := NB912_918.out
            have hnc55 := NB918_912.out
            have hcz56_0 : w42.cell? ⟨gb912, 0, none⟩ = some (.int .i64 t906) := (blk_cell BK912.out 0).trans rfl
            have hcz56_1 : w42.cell? ⟨gb912, 1, none⟩ = some (.int .i64 t907) := (blk_cell BK912.out 1).trans rfl
            have hcz56_2 : w42.cell? ⟨gb912, 2, none⟩ = some (.slice Ao30 t908.length co30) := (blk_cell BK912.out 2).trans rfl
            have hfz56_0 := blk_frozen BK912.out 0
            have hfz56_1 := blk_frozen BK912.out 1
            have hfz56_2 := blk_frozen BK912.out 2
            go_wp2_with (first | ((with_reducible refine gate_callee (f := 25) rfl ?_); refine goesL_ (some 49) rfl rfl Try.func25 (by kernel_rfl) rfl #[.agg #[.int .i64 t922, .int .i64 t923, .slice Ao47 t924.length co47], .agg #[.int .i64 t906, .int .i64 t907, .slice Ao30 t908.length co30]] rfl (by (try simp only [List.map_toArray, List.map_cons, List.map_nil]); first | done | rfl | (simp only [List.length_drop, List.length_take]; rfl)) ?_; (with_reducible refine (laws_eqField.calls k t922 t923 _ _ t924 t906 t907 _ _ t908 true _ ?side1 ?side2 ?side3 ?side4 A48.out).mono ?_); (case side1 => refine (Kd.R_reads' (e := 3) (base := w.heap.size) (ok := fun k_ => (((((True ∧ some k_ ≠ (.slice Ao24 t900.length co24 : Value).ownBlock) ∧ some k_ ≠ (.slice Ao25 t903.length co25 : Value).ownBlock) ∧ some k_ ≠ (.slice Ao30 t908.length co30 : Value).ownBlock) ∧ some k_ ≠ (.slice Ao37 t915.length co37 : Value).ownBlock) ∧ some k_ ≠ (.slice Ao40 t919.length co40 : Value).ownBlock)) (n := t924.length) (c := co47) ?_).2.2; exact (by (with_reducible repeat (first | apply Kd.R_alloc | apply Kd.R_drewN | apply Kd.R_drew)); exact (Kd.R_mono (Kd.R_far (p := ⟨gb928, 2, none⟩) (Kd.R_far (p := ⟨gb928, 1, none⟩) (Kd.R_far (p := ⟨gb928, 0, none⟩) (Kd.R_types HO926.out BK928.out (by decide)) (fun _ hk => hk.2) (.int .i64 t922)) (fun _ hk => hk.2) (.int .i64 t923)) (fun _ hk => hk.2) (.slice Ao47 t924.length co47)) (fun _ h_ => h_.1)))); (case side2 => exact (Kd.R_reads' HO926.out).2.1); (case side3 => refine (Kd.R_reads' (e := 3) (base := w.heap.size) (ok := fun k_ => (((((True ∧ some k_ ≠ (.slice Ao24 t900.length co24 : Value).ownBlock) ∧ some k_ ≠ (.slice Ao25 t903.length co25 : Value).ownBlock) ∧ some k_ ≠ (.slice Ao37 t915.length co37 : Value).ownBlock) ∧ some k_ ≠ (.slice Ao40 t919.length co40 : Value).ownBlock) ∧ some k_ ≠ (.slice Ao47 t924.length co47 : Value).ownBlock)) (n := t908.length) (c := co30) ?_).2.2; exact (by (with_reducible repeat (first | apply Kd.R_alloc | apply Kd.R_drewN | apply Kd.R_drew)); exact (Kd.R_mono (Kd.R_far (p := ⟨gb928, 2, none⟩) (Kd.R_far (p := ⟨gb928, 1, none⟩) (Kd.R_far (p := ⟨gb928, 0, none⟩) (Kd.R_types HO910.out BK928.out (by decide)) (fun _ hk => hk.2) (.int .i64 t922)) (fun _ hk => hk.2) (.int .i64 t923)) (fun _ hk => hk.2) (.slice Ao47 t924.length co47)) (fun _ h_ => h_.1)))); (case side4 => exact (Kd.R_reads' HO910.out).2.1); rintro e w57 ⟨rfl, hb⟩; refine ⟨_, rfl, ?_⟩; have n0_ := Aside0.mk (Kd.R_below (by (with_reducible repeat (first | apply Kd.R_alloc | apply Kd.R_drewN | apply Kd.R_drew)); exact (Kd.R_mono (Kd.R_far (p := ⟨gb928, 2, none⟩) (Kd.R_far (p := ⟨gb928, 1, none⟩) (Kd.R_far (p := ⟨gb928, 0, none⟩) (Kd.R_types HO902.out BK928.out (by decide)) (fun _ hk => hk.2) (.int .i64 t922)) (fun _ hk => hk.2) (.int .i64 t923)) (fun _ hk => hk.2) (.slice Ao47 t924.length co47)) (fun _ h_ => h_.1))) hb); have n1_ := Aside0.mk (Kd.R_below (by (with_reducible repeat (first | apply Kd.R_alloc | apply Kd.R_drewN | apply Kd.R_drew)); exact (Kd.R_mono (Kd.R_far (p := ⟨gb928, 2, none⟩) (Kd.R_far (p := ⟨gb928, 1, none⟩) (Kd.R_far (p := ⟨gb928, 0, none⟩) (Kd.R_types HO905.out BK928.out (by decide)) (fun _ hk => hk.2) (.int .i64 t922)) (fun _ hk => hk.2) (.int .i64 t923)) (fun _ hk => hk.2) (.slice Ao47 t924.length co47)) (fun _ h_ => h_.1))) hb); have n2_ := Aside0.mk (Kd.R_below (by (with_reducible repeat (first | apply Kd.R_alloc | apply Kd.R_drewN | apply Kd.R_drew)); exact (Kd.R_mono (Kd.R_far (p := ⟨gb928, 2, none⟩) (Kd.R_far (p := ⟨gb928, 1, none⟩) (Kd.R_far (p := ⟨gb928, 0, none⟩) (Kd.R_types HO910.out BK928.out (by decide)) (fun _ hk => hk.2) (.int .i64 t922)) (fun _ hk => hk.2) (.int .i64 t923)) (fun _ hk => hk.2) (.slice Ao47 t924.length co47)) (fun _ h_ => h_.1))) hb); have n3_ := Aside0.mk (Kd.R_below (by (with_reducible repeat (first | apply Kd.R_alloc | apply Kd.R_drewN | apply Kd.R_drew)); exact (Kd.R_mono (Kd.R_far (p := ⟨gb928, 2, none⟩) (Kd.R_far (p := ⟨gb928, 1, none⟩) (Kd.R_far (p := ⟨gb928, 0, none⟩) (Kd.R_types HO917.out BK928.out (by decide)) (fun _ hk => hk.2) (.int .i64 t922)) (fun _ hk => hk.2) (.int .i64 t923)) (fun _ hk => hk.2) (.slice Ao47 t924.length co47)) (fun _ h_ => h_.1))) hb); have n4_ := Aside0.mk (Kd.R_below (by (with_reducible repeat (first | apply Kd.R_alloc | apply Kd.R_drewN | apply Kd.R_drew)); exact (Kd.R_mono (Kd.R_far (p := ⟨gb928, 2, none⟩) (Kd.R_far (p := ⟨gb928, 1, none⟩) (Kd.R_far (p := ⟨gb928, 0, none⟩) (Kd.R_types HO921.out BK928.out (by decide)) (fun _ hk => hk.2) (.int .i64 t922)) (fun _ hk => hk.2) (.int .i64 t923)) (fun _ hk => hk.2) (.slice Ao47 t924.length co47)) (fun _ h_ => h_.1))) hb); have n5_ := Aside0.mk (Kd.R_below (by (with_reducible repeat (first | apply Kd.R_alloc | apply Kd.R_drewN | apply Kd.R_drew)); exact (Kd.R_mono (Kd.R_far (p := ⟨gb928, 2, none⟩) (Kd.R_far (p := ⟨gb928, 1, none⟩) (Kd.R_far (p := ⟨gb928, 0, none⟩) (Kd.R_types HO926.out BK928.out (by decide)) (fun _ hk => hk.2) (.int .i64 t922)) (fun _ hk => hk.2) (.int .i64 t923)) (fun _ hk => hk.2) (.slice Ao47 t924.length co47)) (fun _ h_ => h_.1))) hb); have n6_ := Aside0.mk (blk_below (g := gb896) (o := .cells #[.int .i64 a0_0, .int .i64 a0_1, .slice A0_2 l0_2.length c0_2] 36 (0, 0)) (by (with_reducible repeat (first | refine blk_drewN ?_ _ | refine blk_drew ?_ | refine blk_alloc ?_ _)); refine blk_far ?_ NB896_928.out _; (with_reducible repeat (first | refine blk_drewN ?_ _ | refine blk_drew ?_ | refine blk_alloc ?_ _)); refine blk_far ?_ NB896_928.out _; (with_reducible repeat (first | refine blk_drewN ?_ _ | refine blk_drew ?_ | refine blk_alloc ?_ _)); refine blk_far ?_ NB896_928.out _; (with_reducible repeat (first | refine blk_drewN ?_ _ | refine blk_drew ?_ | refine blk_alloc ?_ _)); exact BK896.out) hb); have n7_ := Aside0.mk (blk_below (g := gb912) (o := .cells #[.int .i64 t906, .int .i64 t907, .slice Ao30 t908.length co30] 26 (0, 0)) (by (with_reducible repeat (first | refine blk_drewN ?_ _ | refine blk_drew ?_ | refine blk_alloc ?_ _)); refine blk_far ?_ NB912_928.out _; (with_reducible repeat (first | refine blk_drewN ?_ _ | refine blk_drew ?_ | refine blk_alloc ?_ _)); refine blk_far ?_ NB912_928.out _; (with_reducible repeat (first | refine blk_drewN ?_ _ | refine blk_drew ?_ | refine blk_alloc ?_ _)); refine blk_far ?_ NB912_928.out _; (with_reducible repeat (first | refine blk_drewN ?_ _ | refine blk_drew ?_ | refine blk_alloc ?_ _)); exact BK912.out) hb); have n8_ := Aside0.mk (blk_below (g := gb918) (o := .cells #[.int .i64 t913, .int .i64 t914, .slice Ao37 t915.length co37] 26 (0, 0)) (by (with_reducible repeat (first | refine blk_drewN ?_ _ | refine blk_drew ?_ | refine blk_alloc ?_ _)); refine blk_far ?_ NB918_928.out _; (with_reducible repeat (first | refine blk_drewN ?_ _ | refine blk_drew ?_ | refine blk_alloc ?_ _)); refine blk_far ?_ NB918_928.out _; (with_reducible repeat (first | refine blk_drewN ?_ _ | refine blk_drew ?_ | refine blk_alloc ?_ _)); refine blk_far ?_ NB918_928.out _; (with_reducible repeat (first | refine blk_drewN ?_ _ | refine blk_drew ?_ | refine blk_alloc ?_ _)); exact BK918.out) hb); have n9_ := Aside0.mk (blk_below (g := gb928) (o := .cells #[.int .i64 t922, .int .i64 t923, .slice Ao47 t924.length co47] 26 (0, 0)) (by (with_reducible repeat (first | refine blk_drewN ?_ _ | refine blk_drew ?_ | refine blk_alloc ?_ _)); refine blk_put (cs := #[.int .i64 t922, .int .i64 t923, .slice none 0 0]) ?_ 2 _ rfl; (with_reducible repeat (first | refine blk_drewN ?_ _ | refine blk_drew ?_ | refine blk_alloc ?_ _)); refine blk_put (cs := #[.int .i64 t922, .int .i64 0, .slice none 0 0]) ?_ 1 _ rfl; (with_reducible repeat (first | refine blk_drewN ?_ _ | refine blk_drew ?_ | refine blk_alloc ?_ _)); refine blk_put (cs := #[.int .i64 0, .int .i64 0, .slice none 0 0]) ?_ 0 _ rfl; (with_reducible repeat (first | refine blk_drewN ?_ _ | refine blk_drew ?_ | refine blk_alloc ?_ _)); exact BK928.out) hb); have n10_ := Aside0.mk (below_step (by repeat (first | (with_reducible first | exact HB.out | apply below_alloc | apply pw_below_drewN | apply below_drew1 | refine below_set ?_ GE896.out | refine below_set ?_ GE912.out | refine below_set ?_ GE918.out | refine below_set ?_ GE928.out) | exact HB.out)) hb); clear HO902; clear HO905; clear HO910; clear HO917; clear HO921; clear HO926; clear BK896; clear BK912; clear BK918; clear BK928; clear HB; have HO902 := n0_; have HO905 := n1_; have HO910 := n2_; have HO917 := n3_; have HO921 := n4_; have HO926 := n5_; have BK896 := n6_; have BK912 := n7_; have BK918 := n8_; have BK928 := n9_; have HB := n10_; clear n0_ n1_ n2_ n3_ n4_ n5_ n6_ n7_ n8_ n9_ n10_; (try clear hb); (try clear hb2); (try clear hk); (try clear hi)))
            go_meet
            case rel => exact ⟨_, ((t927 != t911)), (by first | rfl | (simp; done) | (simp [*]; done)), H', ⟨by first | omega | exact Nat.le_refl _⟩, ⟨by (with_reducible repeat (first | apply Kd.R_alloc | apply Kd.R_drewN | apply Kd.R_drew)); exact Kd.R_mono HO921.out (fun _ hk => ⟨hk.1.1.2, ⟨hk.1.2, hk.2⟩⟩)⟩, ⟨by (with_reducible repeat (first | apply Kd.R_alloc | apply Kd.R_drewN | apply Kd.R_drew)); exact Kd.R_mono HO910.out (fun _ hk => ⟨hk.1.2, ⟨hk.1.1.2, hk.2⟩⟩)⟩, ⟨by (with_reducible repeat (first | apply Kd.R_alloc | apply Kd.R_drewN | apply Kd.R_drew)); exact Kd.R_mono HO917.out (fun _ hk => ⟨hk.1.2, ⟨hk.1.1.2, hk.2⟩⟩)⟩, ⟨by (with_reducible repeat (first | apply Kd.R_alloc | apply Kd.R_drewN | apply Kd.R_drew)); exact Kd.R_mono HO926.out (fun _ hk => ⟨hk.2, ⟨hk.1.1.2, hk.1.2⟩⟩)⟩, ⟨by (with_reducible repeat (first | refine blk_drewN ?_ _ | refine blk_drew ?_ | refine blk_alloc ?_ _)); exact BK896.out⟩, ⟨by (with_reducible repeat (first | refine blk_drewN ?_ _ | refine blk_drew ?_ | refine blk_alloc ?_ _)); exact BK912.out⟩, ⟨by (with_reducible repeat (first | refine blk_drewN ?_ _ | refine blk_drew ?_ | refine blk_alloc ?_ _)); exact BK918.out⟩, ⟨by (with_reducible repeat (first | refine blk_drewN ?_ _ | refine blk_drew ?_ | refine blk_alloc ?_ _)); exact BK928.out⟩, ⟨by repeat (first | (with_reducible first | exact HB.out | apply below_alloc | apply pw_below_drewN | apply below_drew1 | refine below_set ?_ GE896.out | refine below_set ?_ GE912.out | refine below_set ?_ GE918.out | refine below_set ?_ GE928.out) | exact HB.out)⟩⟩
          · replace c49 := Bool.eq_false_iff.mpr c49
            subst c49
            have H1 : (laws_FnExactAddToRegion.j0 k l1 a2 t911 t919 t927 true a0_0 a0_1 l0_2 t906 t907 t908 t913 t914 t915 t922 t923 t924) = some r := by rw [if_neg (show ¬ (false = true) by decide)] at H; exact H
            clear H
            have H := H1
            clear H1
            have H' := Aside0.mk H
            clear H
            have hnb58 := NB928_896.out
            have hnc58 := NB896_928.out
            have hnb59 := NB928_912.out
            have hnc59 := NB912_928.out
            have hnb60 := NB928_918.out
            have hnc60 := NB918_928.out
            have hcz61_0 : w42.cell? ⟨gb928, 0, none⟩ = some (.int .i64 0) := (blk_cell BK928.out 0).trans rfl
            have hcz61_1 : w42.cell? ⟨gb928, 1, none⟩ = some (.int .i64 0) := (blk_cell BK928.out 1).trans rfl
            have hcz61_2 : w42.cell? ⟨gb928, 2, none⟩ = some (.slice none 0 0) := (blk_cell BK928.out 2).trans rfl
            have hfz61_0 := blk_frozen BK928.out 0
            have hfz61_1 := blk_frozen BK928.out 1
            have hfz61_2 := blk_frozen BK928.out 2
            have hnb62 := NB912_896.out
            have hnc62 := NB896_912.out
            have hnb63 := NB912_918.out
            have hnc63 := NB918_912.out
            have hcz64_0 : w42.cell? ⟨gb912, 0, none⟩ = some (.int .i64 t906) := (blk_cell BK912.out 0).trans rfl
            have hcz64_1 : w42.cell? ⟨gb912, 1, none⟩ = some (.int .i64 t907) := (blk_cell BK912.out 1).trans rfl
            have hcz64_2 : w42.cell? ⟨gb912, 2, none⟩ = some (.slice Ao30 t908.length co30) := (blk_cell BK912.out 2).trans rfl
            have hfz64_0 := blk_frozen BK912.out 0
            have hfz64_1 := blk_frozen BK912.out 1
            have hfz64_2 := blk_frozen BK912.out 2
            go_wp2_with (first | ((with_reducible refine gate_callee (f := 25) rfl ?_); refine goesL_ (some 49) rfl rfl Try.func25 (by kernel_rfl) rfl #[.agg #[.int .i64 t922, .int .i64 t923, .slice Ao47 t924.length co47], .agg #[.int .i64 t906, .int .i64 t907, .slice Ao30 t908.length co30]] rfl (by (try simp only [List.map_toArray, List.map_cons, List.map_nil]); first | done | rfl | (simp only [List.length_drop, List.length_take]; rfl)) ?_; (with_reducible refine (laws_eqField.calls k t922 t923 _ _ t924 t906 t907 _ _ t908 false _ ?side1 ?side2 ?side3 ?side4 A48.out).mono ?_); (case side1 => refine (Kd.R_reads' (e := 3) (base := w.heap.size) (ok := fun k_ => (((((True ∧ some k_ ≠ (.slice Ao24 t900.length co24 : Value).ownBlock) ∧ some k_ ≠ (.slice Ao25 t903.length co25 : Value).ownBlock) ∧ some k_ ≠ (.slice Ao30 t908.length co30 : Value).ownBlock) ∧ some k_ ≠ (.slice Ao37 t915.length co37 : Value).ownBlock) ∧ some k_ ≠ (.slice Ao40 t919.length co40 : Value).ownBlock)) (n := t924.length) (c := co47) ?_).2.2; exact (by (with_reducible repeat (first | apply Kd.R_alloc | apply Kd.R_drewN | apply Kd.R_drew)); exact (Kd.R_mono (Kd.R_far (p := ⟨gb928, 2, none⟩) (Kd.R_far (p := ⟨gb928, 1, none⟩) (Kd.R_far (p := ⟨gb928, 0, none⟩) (Kd.R_types HO926.out BK928.out (by decide)) (fun _ hk => hk.2) (.int .i64 t922)) (fun _ hk => hk.2) (.int .i64 t923)) (fun _ hk => hk.2) (.slice Ao47 t924.length co47)) (fun _ h_ => h_.1)))); (case side2 => exact (Kd.R_reads' HO926.out).2.1); (case side3 => refine (Kd.R_reads' (e := 3) (base := w.heap.size) (ok := fun k_ => (((((True ∧ some k_ ≠ (.slice Ao24 t900.length co24 : Value).ownBlock) ∧ some k_ ≠ (.slice Ao25 t903.length co25 : Value).ownBlock) ∧ some k_ ≠ (.slice Ao37 t915.length co37 : Value).ownBlock) ∧ some k_ ≠ (.slice Ao40 t919.length co40 : Value).ownBlock) ∧ some k_ ≠ (.slice Ao47 t924.length co47 : Value).ownBlock)) (n := t908.length) (c := co30) ?_).2.2; exact (by (with_reducible repeat (first | apply Kd.R_alloc | apply Kd.R_drewN | apply Kd.R_drew)); exact (Kd.R_mono (Kd.R_far (p := ⟨gb928, 2, none⟩) (Kd.R_far (p := ⟨gb928, 1, none⟩) (Kd.R_far (p := ⟨gb928, 0, none⟩) (Kd.R_types HO910.out BK928.out (by decide)) (fun _ hk => hk.2) (.int .i64 t922)) (fun _ hk => hk.2) (.int .i64 t923)) (fun _ hk => hk.2) (.slice Ao47 t924.length co47)) (fun _ h_ => h_.1)))); (case side4 => exact (Kd.R_reads' HO910.out).2.1); rintro e w65 ⟨rfl, hb⟩; refine ⟨_, rfl, ?_⟩; have n0_ := Aside0.mk (Kd.R_below (by (with_reducible repeat (first | apply Kd.R_alloc | apply Kd.R_drewN | apply Kd.R_drew)); exact (Kd.R_mono (Kd.R_far (p := ⟨gb928, 2, none⟩) (Kd.R_far (p := ⟨gb928, 1, none⟩) (Kd.R_far (p := ⟨gb928, 0, none⟩) (Kd.R_types HO902.out BK928.out (by decide)) (fun _ hk => hk.2) (.int .i64 t922)) (fun _ hk => hk.2) (.int .i64 t923)) (fun _ hk => hk.2) (.slice Ao47 t924.length co47)) (fun _ h_ => h_.1))) hb); have n1_ := Aside0.mk (Kd.R_below (by (with_reducible repeat (first | apply Kd.R_alloc | apply Kd.R_drewN | apply Kd.R_drew)); exact (Kd.R_mono (Kd.R_far (p := ⟨gb928, 2, none⟩) (Kd.R_far (p := ⟨gb928, 1, none⟩) (Kd.R_far (p := ⟨gb928, 0, none⟩) (Kd.R_types HO905.out BK928.out (by decide)) (fun _ hk => hk.2) (.int .i64 t922)) (fun _ hk => hk.2) (.int .i64 t923)) (fun _ hk => hk.2) (.slice Ao47 t924.length co47)) (fun _ h_ => h_.1))) hb); have n2_ := Aside0.mk (Kd.R_below (by (with_reducible repeat (first | apply Kd.R_alloc | apply Kd.R_drewN | apply Kd.R_drew)); exact (Kd.R_mono (Kd.R_far (p := ⟨gb928, 2, none⟩) (Kd.R_far (p := ⟨gb928, 1, none⟩) (Kd.R_far (p := ⟨gb928, 0, none⟩) (Kd.R_types HO910.out BK928.out (by decide)) (fun _ hk => hk.2) (.int .i64 t922)) (fun _ hk => hk.2) (.int .i64 t923)) (fun _ hk => hk.2) (.slice Ao47 t924.length co47)) (fun _ h_ => h_.1))) hb); have n3_ := Aside0.mk (Kd.R_below (by (with_reducible repeat (first | apply Kd.R_alloc | apply Kd.R_drewN | apply Kd.R_drew)); exact (Kd.R_mono (Kd.R_far (p := ⟨gb928, 2, none⟩) (Kd.R_far (p := ⟨gb928, 1, none⟩) (Kd.R_far (p := ⟨gb928, 0, none⟩) (Kd.R_types HO917.out BK928.out (by decide)) (fun _ hk => hk.2) (.int .i64 t922)) (fun _ hk => hk.2) (.int .i64 t923)) (fun _ hk => hk.2) (.slice Ao47 t924.length co47)) (fun _ h_ => h_.1))) hb); have n4_ := Aside0.mk (Kd.R_below (by (with_reducible repeat (first | apply Kd.R_alloc | apply Kd.R_drewN | apply Kd.R_drew)); exact (Kd.R_mono (Kd.R_far (p := ⟨gb928, 2, none⟩) (Kd.R_far (p := ⟨gb928, 1, none⟩) (Kd.R_far (p := ⟨gb928, 0, none⟩) (Kd.R_types HO921.out BK928.out (by decide)) (fun _ hk => hk.2) (.int .i64 t922)) (fun _ hk => hk.2) (.int .i64 t923)) (fun _ hk => hk.2) (.slice Ao47 t924.length co47)) (fun _ h_ => h_.1))) hb); have n5_ := Aside0.mk (Kd.R_below (by (with_reducible repeat (first | apply Kd.R_alloc | apply Kd.R_drewN | apply Kd.R_drew)); exact (Kd.R_mono (Kd.R_far (p := ⟨gb928, 2, none⟩) (Kd.R_far (p := ⟨gb928, 1, none⟩) (Kd.R_far (p := ⟨gb928, 0, none⟩) (Kd.R_types HO926.out BK928.out (by decide)) (fun _ hk => hk.2) (.int .i64 t922)) (fun _ hk => hk.2) (.int .i64 t923)) (fun _ hk => hk.2) (.slice Ao47 t924.length co47)) (fun _ h_ => h_.1))) hb); have n6_ := Aside0.mk (blk_below (g := gb896) (o := .cells #[.int .i64 a0_0, .int .i64 a0_1, .slice A0_2 l0_2.length c0_2] 36 (0, 0)) (by (with_reducible repeat (first | refine blk_drewN ?_ _ | refine blk_drew ?_ | refine blk_alloc ?_ _)); refine blk_far ?_ NB896_928.out _; (with_reducible repeat (first | refine blk_drewN ?_ _ | refine blk_drew ?_ | refine blk_alloc ?_ _)); refine blk_far ?_ NB896_928.out _; (with_reducible repeat (first | refine blk_drewN ?_ _ | refine blk_drew ?_ | refine blk_alloc ?_ _)); refine blk_far ?_ NB896_928.out _; (with_reducible repeat (first | refine blk_drewN ?_ _ | refine blk_drew ?_ | refine blk_alloc ?_ _)); exact BK896.out) hb); have n7_ := Aside0.mk (blk_below (g := gb912) (o := .cells #[.int .i64 t906, .int .i64 t907, .slice Ao30 t908.length co30] 26 (0, 0)) (by (with_reducible repeat (first | refine blk_drewN ?_ _ | refine blk_drew ?_ | refine blk_alloc ?_ _)); refine blk_far ?_ NB912_928.out _; (with_reducible repeat (first | refine blk_drewN ?_ _ | refine blk_drew ?_ | refine blk_alloc ?_ _)); refine blk_far ?_ NB912_928.out _; (with_reducible repeat (first | refine blk_drewN ?_ _ | refine blk_drew ?_ | refine blk_alloc ?_ _)); refine blk_far ?_ NB912_928.out _; (with_reducible repeat (first | refine blk_drewN ?_ _ | refine blk_drew ?_ | refine blk_alloc ?_ _)); exact BK912.out) hb); have n8_ := Aside0.mk (blk_below (g := gb918) (o := .cells #[.int .i64 t913, .int .i64 t914, .slice Ao37 t915.length co37] 26 (0, 0)) (by (with_reducible repeat (first | refine blk_drewN ?_ _ | refine blk_drew ?_ | refine blk_alloc ?_ _)); refine blk_far ?_ NB918_928.out _; (with_reducible repeat (first | refine blk_drewN ?_ _ | refine blk_drew ?_ | refine blk_alloc ?_ _)); refine blk_far ?_ NB918_928.out _; (with_reducible repeat (first | refine blk_drewN ?_ _ | refine blk_drew ?_ | refine blk_alloc ?_ _)); refine blk_far ?_ NB918_928.out _; (with_reducible repeat (first | refine blk_drewN ?_ _ | refine blk_drew ?_ | refine blk_alloc ?_ _)); exact BK918.out) hb); have n9_ := Aside0.mk (blk_below (g := gb928) (o := .cells #[.int .i64 t922, .int .i64 t923, .slice Ao47 t924.length co47] 26 (0, 0)) (by (with_reducible repeat (first | refine blk_drewN ?_ _ | refine blk_drew ?_ | refine blk_alloc ?_ _)); refine blk_put (cs := #[.int .i64 t922, .int .i64 t923, .slice none 0 0]) ?_ 2 _ rfl; (with_reducible repeat (first | refine blk_drewN ?_ _ | refine blk_drew ?_ | refine blk_alloc ?_ _)); refine blk_put (cs := #[.int .i64 t922, .int .i64 0, .slice none 0 0]) ?_ 1 _ rfl; (with_reducible repeat (first | refine blk_drewN ?_ _ | refine blk_drew ?_ | refine blk_alloc ?_ _)); refine blk_put (cs := #[.int .i64 0, .int .i64 0, .slice none 0 0]) ?_ 0 _ rfl; (with_reducible repeat (first | refine blk_drewN ?_ _ | refine blk_drew ?_ | refine blk_alloc ?_ _)); exact BK928.out) hb); have n10_ := Aside0.mk (below_step (by repeat (first | (with_reducible first | exact HB.out | apply below_alloc | apply pw_below_drewN | apply below_drew1 | refine below_set ?_ GE896.out | refine below_set ?_ GE912.out | refine below_set ?_ GE918.out | refine below_set ?_ GE928.out) | exact HB.out)) hb); clear HO902; clear HO905; clear HO910; clear HO917; clear HO921; clear HO926; clear BK896; clear BK912; clear BK918; clear BK928; clear HB; have HO902 := n0_; have HO905 := n1_; have HO910 := n2_; have HO917 := n3_; have HO921 := n4_; have HO926 := n5_; have BK896 := n6_; have BK912 := n7_; have BK918 := n8_; have BK928 := n9_; have HB := n10_; clear n0_ n1_ n2_ n3_ n4_ n5_ n6_ n7_ n8_ n9_ n10_; (try clear hb); (try clear hb2); (try clear hk); (try clear hi)))
            go_meet
            case rel => exact ⟨_, (true), (by first | rfl | (simp; done) | (simp [*]; done)), H', ⟨by first | omega | exact Nat.le_refl _⟩, ⟨by (with_reducible repeat (first | apply Kd.R_alloc | apply Kd.R_drewN | apply Kd.R_drew)); exact Kd.R_mono HO921.out (fun _ hk => ⟨hk.1.1.2, ⟨hk.1.2, hk.2⟩⟩)⟩, ⟨by (with_reducible repeat (first | apply Kd.R_alloc | apply Kd.R_drewN | apply Kd.R_drew)); exact Kd.R_mono HO910.out (fun _ hk => ⟨hk.1.2, ⟨hk.1.1.2, hk.2⟩⟩)⟩, ⟨by (with_reducible repeat (first | apply Kd.R_alloc | apply Kd.R_drewN | apply Kd.R_drew)); exact Kd.R_mono HO917.out (fun _ hk => ⟨hk.1.2, ⟨hk.1.1.2, hk.2⟩⟩)⟩, ⟨by (with_reducible repeat (first | apply Kd.R_alloc | apply Kd.R_drewN | apply Kd.R_drew)); exact Kd.R_mono HO926.out (fun _ hk => ⟨hk.2, ⟨hk.1.1.2, hk.1.2⟩⟩)⟩, ⟨by (with_reducible repeat (first | refine blk_drewN ?_ _ | refine blk_drew ?_ | refine blk_alloc ?_ _)); exact BK896.out⟩, ⟨by (with_reducible repeat (first | refine blk_drewN ?_ _ | refine blk_drew ?_ | refine blk_alloc ?_ _)); exact BK912.out⟩, ⟨by (with_reducible repeat (first | refine blk_drewN ?_ _ | refine blk_drew ?_ | refine blk_alloc ?_ _)); exact BK918.out⟩, ⟨by (with_reducible repeat (first | refine blk_drewN ?_ _ | refine blk_drew ?_ | refine blk_alloc ?_ _)); exact BK928.out⟩, ⟨by repeat (first | (with_reducible first | exact HB.out | apply below_alloc | apply pw_below_drewN | apply below_drew1 | refine below_set ?_ GE896.out | refine below_set ?_ GE912.out | refine below_set ?_ GE918.out | refine below_set ?_ GE928.out) | exact HB.out)⟩⟩
      case rest =>
        as_aux_lemma =>
          clear HC17
          try clear c1
          try clear c2
          try clear p2
          try clear c3
          try clear c4
          try clear c4b0
          try clear c4b1
          try clear c5
          try clear c6
          try clear c7
          try clear c7b0
          try clear c8
          try clear c20
          try clear c22
          try clear c23
          try clear c25
          try clear c28
          try clear c32
          try clear c33
          try clear c34
          try clear c35
          try clear c43
          try clear c44
          try clear c45
          try clear c49
          try clear c50
          try clear c51
          try clear c52
          try clear c54
          try clear c55
          try clear c58
          try clear c59
          try clear c60
          try clear c62
          try clear c63
          try clear hcz19_0
          try clear hcz19_1
          try clear hcz19_2
          try clear hcz21_0
          try clear hcz21_1
          try clear hcz21_2
          try clear hcz29_0
          try clear hcz29_1
          try clear hcz29_2
          try clear hcz31_0
          try clear hcz31_1
          try clear hcz31_2
          try clear hcz36_0
          try clear hcz36_1
          try clear hcz36_2
          try clear hcz39_0
          try clear hcz39_1
          try clear hcz39_2
          try clear hcz46_0
          try clear hcz46_1
          try clear hcz46_2
          try clear hcz53_0
          try clear hcz53_1
          try clear hcz53_2
          try clear hcz56_0
          try clear hcz56_1
          try clear hcz56_2
          try clear hcz61_0
          try clear hcz61_1
          try clear hcz61_2
          try clear hcz64_0
          try clear hcz64_1
          try clear hcz64_2
          try clear hcz9_0
          try clear hcz9_1
          try clear hcz9_2
          try clear hfz19_0
          try clear hfz19_1
          try clear hfz19_2
          try clear hfz21_0
          try clear hfz21_1
          try clear hfz21_2
          try clear hfz29_0
          try clear hfz29_1
          try clear hfz29_2
          try clear hfz31_0
          try clear hfz31_1
          try clear hfz31_2
          try clear hfz36_0
          try clear hfz36_1
          try clear hfz36_2
          try clear hfz39_0
          try clear hfz39_1
          try clear hfz39_2
          try clear hfz46_0
          try clear hfz46_1
          try clear hfz46_2
          try clear hfz53_0
          try clear hfz53_1
          try clear hfz53_2
          try clear hfz56_0
          try clear hfz56_1
          try clear hfz56_2
          try clear hfz61_0
          try clear hfz61_1
          try clear hfz61_2
          try clear hfz64_0
          try clear hfz64_1
          try clear hfz64_2
          try clear hfz9_0
          try clear hfz9_1
          try clear hfz9_2
          obtain ⟨kq, x55_16, rfl, HA, HJ16, HO_11, HO_913002, HO_919002, HO_929002, BK896, BK912, BK918, BK928, HB⟩ := hcut
          cases kq with
          | zero => exact absurd HA.out (by simp [laws_FnExactAddToRegion.j0])
          | succ kj16 =>
            have H := HA.out
            clear HA
            simp only [laws_FnExactAddToRegion.j0] at H
            by_cases c66 : x55_16 = true
            · subst c66
              have H1 : (some false) = some r := by rw [if_pos rfl] at H; exact H
              exact absurd ((Option.some.inj H1).trans hrt_) (by decide)
            · replace c66 := Bool.eq_false_iff.mpr c66
              subst c66
              have H1 : ((laws_toField.f kj16 a0_0 a0_1 l0_2).bind fun bt930 => ((laws_eqField.f kj16 t913 t914 t915 bt930.1 bt930.2.1 bt930.2.2).bind fun t935 => (if t935 = true then ((laws_toIntS.f kj16 l1).bind fun t936 => ((laws_eqIntS.f kj16 t919 t936).bind fun t939 => (if t939 = true then ((laws_markField.f kj16 t913 t914 t915 1).bind fun bt940 => ((laws_markIntS.f kj16 t919 bt940.1).bind fun bt942 => (if bt942.1 < 0 then (laws_FnExactAddToRegion.j1 kj16 l1 a2 t911 true a0_0 a0_1 l0_2 t906 t907 t908 t922 t923 t924) else ((laws_eqField.f kj16 t922 t923 t924 t906 t907 t908).bind fun t944 => (if t944 = true then (laws_FnExactAddToRegion.j1 kj16 l1 a2 t911 (t927 != t911) a0_0 a0_1 l0_2 t906 t907 t908 t922 t923 t924) else (laws_FnExactAddToRegion.j1 kj16 l1 a2 t911 true a0_0 a0_1 l0_2 t906 t907 t908 t922 t923 t924)))))) else (some false)))) else (some false)))) = some r := by rw [if_neg (show ¬ (false = true) by decide)] at H; exact H
              clear H
              have H := H1
              clear H1
              replace H := Option.bind_eq_some_iff.mp H
              obtain ⟨⟨t930, t931, t932⟩, A670, H⟩ := H
              replace H : ((laws_eqField.f kj16 t913 t914 t915 t930 t931 t932).bind fun t935 => (if t935 = true then ((laws_toIntS.f kj16 l1).bind fun t936 => ((laws_eqIntS.f kj16 t919 t936).bind fun t939 => (if t939 = true then ((laws_markField.f kj16 t913 t914 t915 1).bind fun bt940 => ((laws_markIntS.f kj16 t919 bt940.1).bind fun bt942 => (if bt942.1 < 0 then (laws_FnExactAddToRegion.j1 kj16 l1 a2 t911 true a0_0 a0_1 l0_2 t906 t907 t908 t922 t923 t924) else ((laws_eqField.f kj16 t922 t923 t924 t906 t907 t908).bind fun t944 => (if t944 = true then (laws_FnExactAddToRegion.j1 kj16 l1 a2 t911 (t927 != t911) a0_0 a0_1 l0_2 t906 t907 t908 t922 t923 t924) else (laws_FnExactAddToRegion.j1 kj16 l1 a2 t911 true a0_0 a0_1 l0_2 t906 t907 t908 t922 t923 t924)))))) else (some false)))) else (some false))) = some r := H
              have A67 := Aside0.mk A670
              clear A670
              replace H := Option.bind_eq_some_iff.mp H
              obtain ⟨t935, A680, H⟩ := H
              replace H : (if t935 = true then ((laws_toIntS.f kj16 l1).bind fun t936 => ((laws_eqIntS.f kj16 t919 t936).bind fun t939 => (if t939 = true then ((laws_markField.f kj16 t913 t914 t915 1).bind fun bt940 => ((laws_markIntS.f kj16 t919 bt940.1).bind fun bt942 => (if bt942.1 < 0 then (laws_FnExactAddToRegion.j1 kj16 l1 a2 t911 true a0_0 a0_1 l0_2 t906 t907 t908 t922 t923 t924) else ((laws_eqField.f kj16 t922 t923 t924 t906 t907 t908).bind fun t944 => (if t944 = true then (laws_FnExactAddToRegion.j1 kj16 l1 a2 t911 (t927 != t911) a0_0 a0_1 l0_2 t906 t907 t908 t922 t923 t924) else (laws_FnExactAddToRegion.j1 kj16 l1 a2 t911 true a0_0 a0_1 l0_2 t906 t907 t908 t922 t923 t924)))))) else (some false)))) else (some false)) = some r := H
              have A68 := Aside0.mk A680
              clear A680
              by_cases c69 : t935 = true
              · subst c69
                have H1 : ((laws_toIntS.f kj16 l1).bind fun t936 => ((laws_eqIntS.f kj16 t919 t936).bind fun t939 => (if t939 = true then ((laws_markField.f kj16 t913 t914 t915 1).bind fun bt940 => ((laws_markIntS.f kj16 t919 bt940.1).bind fun bt942 => (if bt942.1 < 0 then (laws_FnExactAddToRegion.j1 kj16 l1 a2 t911 true a0_0 a0_1 l0_2 t906 t907 t908 t922 t923 t924) else ((laws_eqField.f kj16 t922 t923 t924 t906 t907 t908).bind fun t944 => (if t944 = true then (laws_FnExactAddToRegion.j1 kj16 l1 a2 t911 (t927 != t911) a0_0 a0_1 l0_2 t906 t907 t908 t922 t923 t924) else (laws_FnExactAddToRegion.j1 kj16 l1 a2 t911 true a0_0 a0_1 l0_2 t906 t907 t908 t922 t923 t924)))))) else (some false)))) = some r := by rw [if_pos rfl] at H; exact H
                clear H
                have H := H1
                clear H1
                replace H := Option.bind_eq_some_iff.mp H
                obtain ⟨t936, A700, H⟩ := H
                replace H : ((laws_eqIntS.f kj16 t919 t936).bind fun t939 => (if t939 = true then ((laws_markField.f kj16 t913 t914 t915 1).bind fun bt940 => ((laws_markIntS.f kj16 t919 bt940.1).bind fun bt942 => (if bt942.1 < 0 then (laws_FnExactAddToRegion.j1 kj16 l1 a2 t911 true a0_0 a0_1 l0_2 t906 t907 t908 t922 t923 t924) else ((laws_eqField.f kj16 t922 t923 t924 t906 t907 t908).bind fun t944 => (if t944 = true then (laws_FnExactAddToRegion.j1 kj16 l1 a2 t911 (t927 != t911) a0_0 a0_1 l0_2 t906 t907 t908 t922 t923 t924) else (laws_FnExactAddToRegion.j1 kj16 l1 a2 t911 true a0_0 a0_1 l0_2 t906 t907 t908 t922 t923 t924)))))) else (some false))) = some r := H
                have A70 := Aside0.mk A700
                clear A700
                replace H := Option.bind_eq_some_iff.mp H
                obtain ⟨t939, A710, H⟩ := H
                replace H : (if t939 = true then ((laws_markField.f kj16 t913 t914 t915 1).bind fun bt940 => ((laws_markIntS.f kj16 t919 bt940.1).bind fun bt942 => (if bt942.1 < 0 then (laws_FnExactAddToRegion.j1 kj16 l1 a2 t911 true a0_0 a0_1 l0_2 t906 t907 t908 t922 t923 t924) else ((laws_eqField.f kj16 t922 t923 t924 t906 t907 t908).bind fun t944 => (if t944 = true then (laws_FnExactAddToRegion.j1 kj16 l1 a2 t911 (t927 != t911) a0_0 a0_1 l0_2 t906 t907 t908 t922 t923 t924) else (laws_FnExactAddToRegion.j1 kj16 l1 a2 t911 true a0_0 a0_1 l0_2 t906 t907 t908 t922 t923 t924)))))) else (some false)) = some r := H
                have A71 := Aside0.mk A710
                clear A710
                by_cases c72 : t939 = true
                · subst c72
                  have H1 : ((laws_markField.f kj16 t913 t914 t915 1).bind fun bt940 => ((laws_markIntS.f kj16 t919 bt940.1).bind fun bt942 => (if bt942.1 < 0 then (laws_FnExactAddToRegion.j1 kj16 l1 a2 t911 true a0_0 a0_1 l0_2 t906 t907 t908 t922 t923 t924) else ((laws_eqField.f kj16 t922 t923 t924 t906 t907 t908).bind fun t944 => (if t944 = true then (laws_FnExactAddToRegion.j1 kj16 l1 a2 t911 (t927 != t911) a0_0 a0_1 l0_2 t906 t907 t908 t922 t923 t924) else (laws_FnExactAddToRegion.j1 kj16 l1 a2 t911 true a0_0 a0_1 l0_2 t906 t907 t908 t922 t923 t924)))))) = some r := by rw [if_pos rfl] at H; exact H
                  clear H
                  have H := H1
                  clear H1
                  replace H := Option.bind_eq_some_iff.mp H
                  obtain ⟨⟨t940, t941⟩, A730, H⟩ := H
                  replace H : ((laws_markIntS.f kj16 t919 t940).bind fun bt942 => (if bt942.1 < 0 then (laws_FnExactAddToRegion.j1 kj16 l1 a2 t911 true a0_0 a0_1 l0_2 t906 t907 t908 t922 t923 t924) else ((laws_eqField.f kj16 t922 t923 t924 t906 t907 t908).bind fun t944 => (if t944 = true then (laws_FnExactAddToRegion.j1 kj16 l1 a2 t911 (t927 != t911) a0_0 a0_1 l0_2 t906 t907 t908 t922 t923 t924) else (laws_FnExactAddToRegion.j1 kj16 l1 a2 t911 true a0_0 a0_1 l0_2 t906 t907 t908 t922 t923 t924))))) = some r := H
                  have A73 := Aside0.mk A730
                  clear A730
                  replace H := Option.bind_eq_some_iff.mp H
                  obtain ⟨⟨t942, t943⟩, A740, H⟩ := H
                  replace H : (if t942 < 0 then (laws_FnExactAddToRegion.j1 kj16 l1 a2 t911 true a0_0 a0_1 l0_2 t906 t907 t908 t922 t923 t924) else ((laws_eqField.f kj16 t922 t923 t924 t906 t907 t908).bind fun t944 => (if t944 = true then (laws_FnExactAddToRegion.j1 kj16 l1 a2 t911 (t927 != t911) a0_0 a0_1 l0_2 t906 t907 t908 t922 t923 t924) else (laws_FnExactAddToRegion.j1 kj16 l1 a2 t911 true a0_0 a0_1 l0_2 t906 t907 t908 t922 t923 t924)))) = some r := H
                  have A74 := Aside0.mk A740
                  clear A740
                  have HC75 := Aside0.mk H
                  clear H
                  try go_wp2
                  have n0_ := Aside0.mk (Kd.R_drew HO_11.out)
                  have n1_ := Aside0.mk (Kd.R_drew HO_913002.out)
                  have n2_ := Aside0.mk (Kd.R_drew HO_919002.out)
                  have n3_ := Aside0.mk (Kd.R_drew HO_929002.out)
                  have n4_ := Aside0.mk (blk_drew BK896.out)
                  have n5_ := Aside0.mk (blk_drew BK912.out)
                  have n6_ := Aside0.mk (blk_drew BK918.out)
                  have n7_ := Aside0.mk (blk_drew BK928.out)
                  have n8_ := Aside0.mk (below_drew1 HB.out)
                  clear HO_11
                  clear HO_913002
                  clear HO_919002
                  clear HO_929002
                  clear BK896
                  clear BK912
                  clear BK918
                  clear BK928
                  clear HB
                  have HO_11 := n0_
                  have HO_913002 := n1_
                  have HO_919002 := n2_
                  have HO_929002 := n3_
                  have BK896 := n4_
                  have BK912 := n5_
                  have BK918 := n6_
                  have BK928 := n7_
                  have HB := n8_
                  clear n0_ n1_ n2_ n3_ n4_ n5_ n6_ n7_ n8_
                  refine start_ (n := 5) (S := fun w' => w'.cell? ⟨gb918, 0, none⟩ = some (.int .i64 t913) ∧ w'.cell? ⟨gb918, 1, none⟩ = some (.int .i64 t914) ∧ w'.cell? ⟨gb918, 2, none⟩ = some (.slice Ao37 t915.length co37) ∧ w'.cell? ⟨gb896, 0, none⟩ = some (.int .i64 a0_0) ∧ w'.cell? ⟨gb896, 1, none⟩ = some (.int .i64 a0_1) ∧ w'.cell? ⟨gb896, 2, none⟩ = some (.slice A0_2 l0_2.length c0_2)) (ds := []) #[false, false, false, false, false] (by kernel_rfl) rfl rfl ⟨(blk_cell BK918.out 0).trans rfl, (blk_cell BK918.out 1).trans rfl, (blk_cell BK918.out 2).trans rfl, (blk_cell BK896.out 0).trans rfl, (blk_cell BK896.out 1).trans rfl, (blk_cell BK896.out 2).trans rfl⟩ (fun hHeld => ?_)
                  generalize wc.drew = w76 at HO_11 HO_913002 HO_919002 HO_929002 BK896 BK912 BK918 BK928 HB hHeld ⊢
                  refine take_ (i := 0) (N := some 56) (v := ?_) (a' := ?_) #[true, false, false, false, false] rfl rfl (by kernel_rfl) (fun _ _ _ h => h) (Or.inl ⟨by rfl, ?_⟩) hHeld ?_ ?_
                  rotate_left
                  · rintro w' ⟨s0, s1, s2, s3, s4, s5⟩
                    go_simp
                    with_reducible rfl
                  rotate_left
                  · simp only [Act.put, List.setIfInBounds_toArray, List.set_cons_zero, List.set_cons_succ, i64_w, i32_w]
                    rfl
                  refine take_ (i := 1) (N := some 57) (v := ?_) (a' := ?_) #[true, true, false, false, false] rfl rfl (by kernel_rfl) (fun _ _ _ h => h) (Or.inl ⟨by rfl, ?_⟩) hHeld ?_ ?_
                  rotate_left
                  · rintro w' ⟨s0, s1, s2, s3, s4, s5⟩
                    go_simp
                    with_reducible rfl
                  rotate_left
                  · simp only [Act.put, List.setIfInBounds_toArray, List.set_cons_zero, List.set_cons_succ, i64_w, i32_w]
                    rfl
                  refine one_ (i := 2) (N := some 58) #[true, true, true, false, false] rfl rfl (by kernel_rfl) (by decide) (fun K hK => ?_)
                  refine goes_ Try.func22 (by kernel_rfl) rfl #[.agg #[.int .i64 a0_0, .int .i64 a0_1, .slice A0_2 l0_2.length c0_2]] (by rfl) rfl rfl (by (try simp only [List.map_toArray, List.map_cons, List.map_nil]); first | done | rfl | (simp only [List.length_drop, List.length_take]; rfl)) ?_
                  with_reducible refine (laws_toField.calls kj16 a0_0 a0_1 _ _ l0_2 t930 t931 t932 _ ?side1 ?side2 A67.out).mono ?_
                  (case side1 => repeat (first | exact (Kd.C_below HR0_2.out HB.out) | (with_reducible refine Kd.C_alloc ?_ _) | (with_reducible refine Kd.C_drewN ?_ _) | (with_reducible refine Kd.C_drew ?_)))
                  (case side2 => exact HC0_2.out)
                  rintro e w77 ⟨v933, rfl, ho0, hb⟩
                  refine ⟨_, rfl, ?_⟩
                  have n0_ := Aside0.mk (Kd.R_elder' (by (with_reducible repeat (first | apply Kd.R_alloc | apply Kd.R_drewN | apply Kd.R_drew)); exact HO_11.out) (Kd.R_base ho0) hb)
                  have n1_ := Aside0.mk (Kd.R_elder' (by (with_reducible repeat (first | apply Kd.R_alloc | apply Kd.R_drewN | apply Kd.R_drew)); exact HO_913002.out) (Kd.R_base ho0) hb)
                  have n2_ := Aside0.mk (Kd.R_elder' (by (with_reducible repeat (first | apply Kd.R_alloc | apply Kd.R_drewN | apply Kd.R_drew)); exact HO_919002.out) (Kd.R_base ho0) hb)
                  have n3_ := Aside0.mk (Kd.R_elder' (by (with_reducible repeat (first | apply Kd.R_alloc | apply Kd.R_drewN | apply Kd.R_drew)); exact HO_929002.out) (Kd.R_base ho0) hb)
                  have n4_ := Aside0.mk (Kd.R_lower (Kd.R_new' (Kd.R_new' (Kd.R_new' (Kd.R_new' ho0 (Kd.R_lt (by (with_reducible repeat (first | apply Kd.R_alloc | apply Kd.R_drewN | apply Kd.R_drew)); exact HO_11.out))) (Kd.R_lt (by (with_reducible repeat (first | apply Kd.R_alloc | apply Kd.R_drewN | apply Kd.R_drew)); exact HO_913002.out))) (Kd.R_lt (by (with_reducible repeat (first | apply Kd.R_alloc | apply Kd.R_drewN | apply Kd.R_drew)); exact HO_919002.out))) (Kd.R_lt (by (with_reducible repeat (first | apply Kd.R_alloc | apply Kd.R_drewN | apply Kd.R_drew)); exact HO_929002.out))) (below_size (by repeat (first | (with_reducible first | exact HB.out | apply below_alloc | apply pw_below_drewN | apply below_drew1 | refine below_set ?_ GE896.out | refine below_set ?_ GE912.out | refine below_set ?_ GE918.out | refine below_set ?_ GE928.out) | exact HB.out))))
                  have n5_ := Aside0.mk (blk_below (g := gb896) (o := .cells #[.int .i64 a0_0, .int .i64 a0_1, .slice A0_2 l0_2.length c0_2] 36 (0, 0)) BK896.out hb)
                  have n6_ := Aside0.mk (blk_below (g := gb912) (o := .cells #[.int .i64 t906, .int .i64 t907, .slice Ao30 t908.length co30] 26 (0, 0)) BK912.out hb)
                  have n7_ := Aside0.mk (blk_below (g := gb918) (o := .cells #[.int .i64 t913, .int .i64 t914, .slice Ao37 t915.length co37] 26 (0, 0)) BK918.out hb)
                  have n8_ := Aside0.mk (blk_below (g := gb928) (o := .cells #[.int .i64 t922, .int .i64 t923, .slice Ao47 t924.length co47] 26 (0, 0)) BK928.out hb)
                  have n9_ := Aside0.mk (below_step (by repeat (first | (with_reducible first | exact HB.out | apply below_alloc | apply pw_below_drewN | apply below_drew1 | refine below_set ?_ GE896.out | refine below_set ?_ GE912.out | refine below_set ?_ GE918.out | refine below_set ?_ GE928.out) | exact HB.out)) hb)
                  clear HO_11
                  clear HO_913002
                  clear HO_919002
                  clear HO_929002
                  clear BK896
                  clear BK912
                  clear BK918
                  clear BK928
                  clear HB
                  have HO_11 := n0_
                  have HO_913002 := n1_
                  have HO_919002 := n2_
                  have HO_929002 := n3_
                  have HO934 := n4_
                  have BK896 := n5_
                  have BK912 := n6_
                  have BK918 := n7_
                  have BK928 := n8_
                  have HB := n9_
                  clear n0_ n1_ n2_ n3_ n4_ n5_ n6_ n7_ n8_ n9_
                  (try clear hb)
                  (try clear hb2)
                  (try clear hk)
                  (try clear hi)
                  (try clear ho0)
                  obtain ⟨Ao78, co78, eo78⟩ := Kd.R_slice HO934.out
                  (first | subst eo78 | (injection eo78 with f1_ f2_ f3_; have f4_ := f1_.symm; have f5_ := f3_.symm; clear f1_ f2_ f3_; subst f4_; subst f5_))
                  refine hK.out _ _ ⟨(blk_cell BK918.out 0).trans rfl, (blk_cell BK918.out 1).trans rfl, (blk_cell BK918.out 2).trans rfl, (blk_cell BK896.out 0).trans rfl, (blk_cell BK896.out 1).trans rfl, (blk_cell BK896.out 2).trans rfl⟩ (fun hHeld => ?_)
                  clear hK K
                  refine norm_ (a' := ?_) ?_ ?_
                  rotate_left
                  · show Act.put _ (some 58) _ = _
                    simp only [Act.put, List.setIfInBounds_toArray, List.set_cons_zero, List.set_cons_succ, i64_w, i32_w]
                    rfl
                  refine one_ (i := 3) (N := some 59) #[true, true, true, true, false] rfl rfl (by kernel_rfl) (by decide) (fun K hK => ?_)
                  refine goes_ Try.func25 (by kernel_rfl) rfl #[.agg #[.int .i64 t913, .int .i64 t914, .slice Ao37 t915.length co37], .agg #[.int .i64 t930, .int .i64 t931, .slice Ao78 t932.length co78]] (by rfl) rfl rfl (by (try simp only [List.map_toArray, List.map_cons, List.map_nil]); first | done | rfl | (simp only [List.length_drop, List.length_take]; rfl)) ?_
                  with_reducible refine (laws_eqField.calls kj16 t913 t914 _ _ t915 t930 t931 _ _ t932 true _ ?side1 ?side2 ?side3 ?side4 A68.out).mono ?_
                  (case side1 => repeat (first | exact (Kd.R_reads' HO_919002.out).2.2 | (with_reducible refine Kd.C_alloc ?_ _) | (with_reducible refine Kd.C_drewN ?_ _) | (with_reducible refine Kd.C_drew ?_)))
                  (case side2 => exact (Kd.R_reads' HO_919002.out).2.1)
                  (case side3 => repeat (first | exact (Kd.R_reads' HO934.out).2.2 | (with_reducible refine Kd.C_alloc ?_ _) | (with_reducible refine Kd.C_drewN ?_ _) | (with_reducible refine Kd.C_drew ?_)))
                  (case side4 => exact (Kd.R_reads' HO934.out).2.1)
                  rintro e w79 ⟨rfl, hb⟩
                  refine ⟨_, rfl, ?_⟩
                  have n0_ := Aside0.mk (Kd.R_below (by (with_reducible repeat (first | apply Kd.R_alloc | apply Kd.R_drewN | apply Kd.R_drew)); exact HO_11.out) hb)
                  have n1_ := Aside0.mk (Kd.R_below (by (with_reducible repeat (first | apply Kd.R_alloc | apply Kd.R_drewN | apply Kd.R_drew)); exact HO_913002.out) hb)
                  have n2_ := Aside0.mk (Kd.R_below (by (with_reducible repeat (first | apply Kd.R_alloc | apply Kd.R_drewN | apply Kd.R_drew)); exact HO_919002.out) hb)
                  have n3_ := Aside0.mk (Kd.R_below (by (with_reducible repeat (first | apply Kd.R_alloc | apply Kd.R_drewN | apply Kd.R_drew)); exact HO_929002.out) hb)
                  have n4_ := Aside0.mk (Kd.R_below (by (with_reducible repeat (first | apply Kd.R_alloc | apply Kd.R_drewN | apply Kd.R_drew)); exact HO934.out) hb)
                  have n5_ := Aside0.mk (blk_below (g := gb896) (o := .cells #[.int .i64 a0_0, .int .i64 a0_1, .slice A0_2 l0_2.length c0_2] 36 (0, 0)) BK896.out hb)
                  have n6_ := Aside0.mk (blk_below (g := gb912) (o := .cells #[.int .i64 t906, .int .i64 t907, .slice Ao30 t908.length co30] 26 (0, 0)) BK912.out hb)
                  have n7_ := Aside0.mk (blk_below (g := gb918) (o := .cells #[.int .i64 t913, .int .i64 t914, .slice Ao37 t915.length co37] 26 (0, 0)) BK918.out hb)
                  have n8_ := Aside0.mk (blk_below (g := gb928) (o := .cells #[.int .i64 t922, .int .i64 t923, .slice Ao47 t924.length co47] 26 (0, 0)) BK928.out hb)
                  have n9_ := Aside0.mk (below_step (by repeat (first | (with_reducible first | exact HB.out | apply below_alloc | apply pw_below_drewN | apply below_drew1 | refine below_set ?_ GE896.out | refine below_set ?_ GE912.out | refine below_set ?_ GE918.out | refine below_set ?_ GE928.out) | exact HB.out)) hb)
                  clear HO_11
                  clear HO_913002
                  clear HO_919002
                  clear HO_929002
                  clear HO934
                  clear BK896
                  clear BK912
                  clear BK918
                  clear BK928
                  clear HB
                  have HO_11 := n0_
                  have HO_913002 := n1_
                  have HO_919002 := n2_
                  have HO_929002 := n3_
                  have HO934 := n4_
                  have BK896 := n5_
                  have BK912 := n6_
                  have BK918 := n7_
                  have BK928 := n8_
                  have HB := n9_
                  clear n0_ n1_ n2_ n3_ n4_ n5_ n6_ n7_ n8_ n9_
                  (try clear hb)
                  (try clear hb2)
                  (try clear hk)
                  (try clear hi)
                  refine hK.out _ _ ⟨(blk_cell BK918.out 0).trans rfl, (blk_cell BK918.out 1).trans rfl, (blk_cell BK918.out 2).trans rfl, (blk_cell BK896.out 0).trans rfl, (blk_cell BK896.out 1).trans rfl, (blk_cell BK896.out 2).trans rfl⟩ (fun hHeld => ?_)
                  clear hK K
                  refine norm_ (a' := ?_) ?_ ?_
                  rotate_left
                  · show Act.put _ (some 59) _ = _
                    simp only [Act.put, List.setIfInBounds_toArray, List.set_cons_zero, List.set_cons_succ, i64_w, i32_w]
                    rfl
                  refine pure_ (i := 4) (N := some 60) (v := ?_) (a' := ?_) #[true, true, true, true, true] rfl rfl (by kernel_rfl) (fun _ _ _ h => h) (Or.inl ⟨by rfl, ?_⟩) ?_ ?_
                  rotate_left
                  · intro w'
                    go_simp
                    with_reducible rfl
                  rotate_left
                  · simp only [Act.put, List.setIfInBounds_toArray, List.set_cons_zero, List.set_cons_succ, i64_w, i32_w]
                    rfl
                  refine done_ (by kernel_rfl) ?_
                  go_upto_region 20 with (first | ((with_reducible refine gate_callee (f := 23) rfl ?_); refine goesL_ (some 63) rfl rfl Try.func23 (by kernel_rfl) rfl #[.slice A1 l1.length c1] rfl (by (try simp only [List.map_toArray, List.map_cons, List.map_nil]); first | done | rfl | (simp only [List.length_drop, List.length_take]; rfl)) ?_; (with_reducible refine (laws_toIntS.calls kj16 _ _ l1 t936 _ ?side1 ?side2 A70.out).mono ?_); (case side1 => repeat (first | exact (Kd.C_below HR1.out HB.out) | (with_reducible refine Kd.C_alloc ?_ _) | (with_reducible refine Kd.C_drewN ?_ _) | (with_reducible refine Kd.C_drew ?_))); (case side2 => exact HC1.out); rintro e w80 ⟨v937, rfl, ho0, hb⟩; refine ⟨_, rfl, ?_⟩; have n0_ := Aside0.mk (Kd.R_elder' (by (with_reducible repeat (first | apply Kd.R_alloc | apply Kd.R_drewN | apply Kd.R_drew)); exact HO_11.out) (Kd.R_base ho0) hb); have n1_ := Aside0.mk (Kd.R_elder' (by (with_reducible repeat (first | apply Kd.R_alloc | apply Kd.R_drewN | apply Kd.R_drew)); exact HO_913002.out) (Kd.R_base ho0) hb); have n2_ := Aside0.mk (Kd.R_elder' (by (with_reducible repeat (first | apply Kd.R_alloc | apply Kd.R_drewN | apply Kd.R_drew)); exact HO_919002.out) (Kd.R_base ho0) hb); have n3_ := Aside0.mk (Kd.R_elder' (by (with_reducible repeat (first | apply Kd.R_alloc | apply Kd.R_drewN | apply Kd.R_drew)); exact HO_929002.out) (Kd.R_base ho0) hb); have n4_ := Aside0.mk (Kd.R_elder' (by (with_reducible repeat (first | apply Kd.R_alloc | apply Kd.R_drewN | apply Kd.R_drew)); exact HO934.out) (Kd.R_base ho0) hb); have n5_ := Aside0.mk (Kd.R_lower (Kd.R_new' (Kd.R_new' (Kd.R_new' (Kd.R_new' (Kd.R_new' ho0 (Kd.R_lt (by (with_reducible repeat (first | apply Kd.R_alloc | apply Kd.R_drewN | apply Kd.R_drew)); exact HO_11.out))) (Kd.R_lt (by (with_reducible repeat (first | apply Kd.R_alloc | apply Kd.R_drewN | apply Kd.R_drew)); exact HO_913002.out))) (Kd.R_lt (by (with_reducible repeat (first | apply Kd.R_alloc | apply Kd.R_drewN | apply Kd.R_drew)); exact HO_919002.out))) (Kd.R_lt (by (with_reducible repeat (first | apply Kd.R_alloc | apply Kd.R_drewN | apply Kd.R_drew)); exact HO_929002.out))) (Kd.R_lt (by (with_reducible repeat (first | apply Kd.R_alloc | apply Kd.R_drewN | apply Kd.R_drew)); exact HO934.out))) (below_size (by repeat (first | (with_reducible first | exact HB.out | apply below_alloc | apply pw_below_drewN | apply below_drew1 | refine below_set ?_ GE896.out | refine below_set ?_ GE912.out | refine below_set ?_ GE918.out | refine below_set ?_ GE928.out) | exact HB.out)))); have n6_ := Aside0.mk (blk_below (g := gb896) (o := .cells #[.int .i64 a0_0, .int .i64 a0_1, .slice A0_2 l0_2.length c0_2] 36 (0, 0)) BK896.out hb); have n7_ := Aside0.mk (blk_below (g := gb912) (o := .cells #[.int .i64 t906, .int .i64 t907, .slice Ao30 t908.length co30] 26 (0, 0)) BK912.out hb); have n8_ := Aside0.mk (blk_below (g := gb918) (o := .cells #[.int .i64 t913, .int .i64 t914, .slice Ao37 t915.length co37] 26 (0, 0)) BK918.out hb); have n9_ := Aside0.mk (blk_below (g := gb928) (o := .cells #[.int .i64 t922, .int .i64 t923, .slice Ao47 t924.length co47] 26 (0, 0)) BK928.out hb); have n10_ := Aside0.mk (below_step (by repeat (first | (with_reducible first | exact HB.out | apply below_alloc | apply pw_below_drewN | apply below_drew1 | refine below_set ?_ GE896.out | refine below_set ?_ GE912.out | refine below_set ?_ GE918.out | refine below_set ?_ GE928.out) | exact HB.out)) hb); clear HO_11; clear HO_913002; clear HO_919002; clear HO_929002; clear HO934; clear BK896; clear BK912; clear BK918; clear BK928; clear HB; have HO_11 := n0_; have HO_913002 := n1_; have HO_919002 := n2_; have HO_929002 := n3_; have HO934 := n4_; have HO938 := n5_; have BK896 := n6_; have BK912 := n7_; have BK918 := n8_; have BK928 := n9_; have HB := n10_; clear n0_ n1_ n2_ n3_ n4_ n5_ n6_ n7_ n8_ n9_ n10_; (try clear hb); (try clear hb2); (try clear hk); (try clear hi); (try clear ho0); obtain ⟨Ao81, co81, eo81⟩ := Kd.R_slice HO938.out; subst eo81) | ((with_reducible refine gate_callee (f := 26) rfl ?_); refine goesL_ (some 64) rfl rfl Try.func26 (by kernel_rfl) rfl #[.slice Ao40 t919.length co40, .slice Ao81 t936.length co81] rfl (by (try simp only [List.map_toArray, List.map_cons, List.map_nil]); first | done | rfl | (simp only [List.length_drop, List.length_take]; rfl)) ?_; (with_reducible refine (laws_eqIntS.calls kj16 _ _ t919 _ _ t936 true _ ?side1 ?side2 ?side3 ?side4 A71.out).mono ?_); (case side1 => repeat (first | exact (Kd.R_reads' HO_11.out).2.2 | (with_reducible refine Kd.C_alloc ?_ _) | (with_reducible refine Kd.C_drewN ?_ _) | (with_reducible refine Kd.C_drew ?_))); (case side2 => exact (Kd.R_reads' HO_11.out).2.1); (case side3 => repeat (first | exact (Kd.R_reads' HO938.out).2.2 | (with_reducible refine Kd.C_alloc ?_ _) | (with_reducible refine Kd.C_drewN ?_ _) | (with_reducible refine Kd.C_drew ?_))); (case side4 => exact (Kd.R_reads' HO938.out).2.1); rintro e w' ⟨rfl, ⟨nd, rfl⟩⟩; refine ⟨_, rfl, ?_⟩; have hnb82 := NB918_896.out; have hnc82 := NB896_918.out; have hnb83 := NB918_912.out; have hnc83 := NB912_918.out; have hnb84 := NB918_928.out; have hnc84 := NB928_918.out; have hcz85_0 : w80.cell? ⟨gb918, 0, none⟩ = some (.int .i64 t913) := (blk_cell BK918.out 0).trans rfl; have hcz85_1 : w80.cell? ⟨gb918, 1, none⟩ = some (.int .i64 t914) := (blk_cell BK918.out 1).trans rfl; have hcz85_2 : w80.cell? ⟨gb918, 2, none⟩ = some (.slice Ao37 t915.length co37) := (blk_cell BK918.out 2).trans rfl; have hfz85_0 := blk_frozen BK918.out 0; have hfz85_1 := blk_frozen BK918.out 1; have hfz85_2 := blk_frozen BK918.out 2) | ((with_reducible refine gate_callee (f := 27) rfl ?_); refine goesL_ (some 68) rfl rfl Try.func27 (by kernel_rfl) rfl #[.agg #[.int .i64 t913, .int .i64 t914, .slice Ao37 t915.length co37], .int .i64 1] rfl (by (try simp only [List.map_toArray, List.map_cons, List.map_nil]); first | done | rfl | (simp only [List.length_drop, List.length_take]; rfl)) ?_; (with_reducible refine (laws_markField.calls kj16 t913 t914 (fun k_ => some k_ = (.slice Ao37 t915.length co37 : Value).ownBlock) (.slice Ao37 t915.length co37) t915 1 t940 t941 w _ ?side1 ?side2 A73.out).mono ?_); (case side1 => repeat (first | (with_reducible first | exact HB.out | apply below_alloc | apply pw_below_drewN | apply below_drew1 | refine below_set ?_ GE896.out | refine below_set ?_ GE912.out | refine below_set ?_ GE918.out | refine below_set ?_ GE928.out) | exact HB.out)); (case side2 => exact Kd.R_tight rfl HO_919002.out); rintro e w86 ⟨rfl, hy0, hb, hkp⟩; refine ⟨_, rfl, ?_⟩; have n0_ := Aside0.mk (Kd.R_mono (ok' := fun k_ => some k_ ≠ (.slice Ao30 t908.length co30 : Value).ownBlock ∧ some k_ ≠ (.slice Ao37 t915.length co37 : Value).ownBlock ∧ some k_ ≠ (.slice Ao47 t924.length co47 : Value).ownBlock ∧ some k_ ≠ (.slice Ao78 t932.length co78 : Value).ownBlock ∧ some k_ ≠ (.slice Ao81 t936.length co81 : Value).ownBlock) (Kd.R_keptB (HO_11.out) hkp (fun k_ hk_ hs_ => (hk_.1.1.2.1) hs_)) (fun k_ hk_ => ⟨hk_.1.1.1.1, hk_.1.1.1.2.1, hk_.1.1.1.2.2, hk_.1.1.2, hk_.1.2⟩)); have n1_ := Aside0.mk (Kd.R_mono (ok' := fun k_ => some k_ ≠ (.slice Ao40 t919.length co40 : Value).ownBlock ∧ some k_ ≠ (.slice Ao37 t915.length co37 : Value).ownBlock ∧ some k_ ≠ (.slice Ao47 t924.length co47 : Value).ownBlock ∧ some k_ ≠ (.slice Ao78 t932.length co78 : Value).ownBlock ∧ some k_ ≠ (.slice Ao81 t936.length co81 : Value).ownBlock) (Kd.R_keptB (HO_913002.out) hkp (fun k_ hk_ hs_ => (hk_.1.1.2.1) hs_)) (fun k_ hk_ => ⟨hk_.1.1.1.1, hk_.1.1.1.2.1, hk_.1.1.1.2.2, hk_.1.1.2, hk_.1.2⟩)); have n2_ := Aside0.mk (Kd.R_reok rfl hy0 (fun k_ e_ => HO_919002.out.1 k_ e_)); have n3_ := Aside0.mk (Kd.R_mono (ok' := fun k_ => some k_ ≠ (.slice Ao40 t919.length co40 : Value).ownBlock ∧ some k_ ≠ (.slice Ao30 t908.length co30 : Value).ownBlock ∧ some k_ ≠ (.slice Ao37 t915.length co37 : Value).ownBlock ∧ some k_ ≠ (.slice Ao78 t932.length co78 : Value).ownBlock ∧ some k_ ≠ (.slice Ao81 t936.length co81 : Value).ownBlock) (Kd.R_keptB (HO_929002.out) hkp (fun k_ hk_ hs_ => (hk_.1.1.2.2) hs_)) (fun k_ hk_ => ⟨hk_.1.1.1.1, hk_.1.1.1.2.1, hk_.1.1.1.2.2, hk_.1.1.2, hk_.1.2⟩)); have n4_ := Aside0.mk (blk_kept BK896.out hkp (fun hs_ => (fun e_ => (Kd.R_ne HO_919002.out BK896.out (by decide)) e_) hs_)); have n5_ := Aside0.mk (blk_kept BK912.out hkp (fun hs_ => (fun e_ => (Kd.R_ne HO_919002.out BK912.out (by decide)) e_) hs_)); have n6_ := Aside0.mk (blk_kept BK918.out hkp (fun hs_ => (fun e_ => (Kd.R_ne HO_919002.out BK918.out (by decide)) e_) hs_)); have n7_ := Aside0.mk (blk_kept BK928.out hkp (fun hs_ => (fun e_ => (Kd.R_ne HO_919002.out BK928.out (by decide)) e_) hs_)); have n8_ := Aside0.mk (Kd.R_mono (ok' := fun k_ => some k_ ≠ (.slice Ao40 t919.length co40 : Value).ownBlock ∧ some k_ ≠ (.slice Ao30 t908.length co30 : Value).ownBlock ∧ some k_ ≠ (.slice Ao37 t915.length co37 : Value).ownBlock ∧ some k_ ≠ (.slice Ao47 t924.length co47 : Value).ownBlock ∧ some k_ ≠ (.slice Ao81 t936.length co81 : Value).ownBlock) (Kd.R_keptB (HO934.out) hkp (fun k_ hk_ hs_ => (hk_.1.1.2) hs_)) (fun k_ hk_ => ⟨hk_.1.1.1.1.1.2, hk_.1.1.1.1.2, hk_.1.1.1.2, hk_.1.1.2, hk_.1.2⟩)); have n9_ := Aside0.mk (Kd.R_mono (ok' := fun k_ => some k_ ≠ (.slice Ao40 t919.length co40 : Value).ownBlock ∧ some k_ ≠ (.slice Ao30 t908.length co30 : Value).ownBlock ∧ some k_ ≠ (.slice Ao37 t915.length co37 : Value).ownBlock ∧ some k_ ≠ (.slice Ao47 t924.length co47 : Value).ownBlock ∧ some k_ ≠ (.slice Ao78 t932.length co78 : Value).ownBlock) (Kd.R_keptB (HO938.out) hkp (fun k_ hk_ hs_ => (hk_.1.1.2) hs_)) (fun k_ hk_ => ⟨hk_.1.1.1.1.1.2, hk_.1.1.1.1.2, hk_.1.1.1.2, hk_.1.1.2, hk_.1.2⟩)); have n10_ := Aside0.mk (hb); clear HO_11; clear HO_913002; clear HO_919002; clear HO_929002; clear BK896; clear BK912; clear BK918; clear BK928; clear HO934; clear HO938; clear HB; have HO_11 := n0_; have HO_913002 := n1_; have HO_919002 := n2_; have HO_929002 := n3_; have BK896 := n4_; have BK912 := n5_; have BK918 := n6_; have BK928 := n7_; have HO934 := n8_; have HO938 := n9_; have HB := n10_; clear n0_ n1_ n2_ n3_ n4_ n5_ n6_ n7_ n8_ n9_ n10_; (try clear hb); (try clear hkp); (try clear hy0)) | ((with_reducible refine gate_callee (f := 28) rfl ?_); refine goesL_ (some 71) rfl rfl Try.func28 (by kernel_rfl) rfl #[.slice Ao40 t919.length co40, .int .i64 t940] rfl (by (try simp only [List.map_toArray, List.map_cons, List.map_nil]); first | done | rfl | (simp only [List.length_drop, List.length_take]; rfl)) ?_; (with_reducible refine (laws_markIntS.calls kj16 (fun k_ => some k_ = (.slice Ao40 t919.length co40 : Value).ownBlock) (.slice Ao40 t919.length co40) t919 t940 t942 t943 w _ ?side1 ?side2 A74.out).mono ?_); (case side1 => repeat (first | (with_reducible first | exact HB.out | apply below_alloc | apply pw_below_drewN | apply below_drew1 | refine below_set ?_ GE896.out | refine below_set ?_ GE912.out | refine below_set ?_ GE918.out | refine below_set ?_ GE928.out) | exact HB.out)); (case side2 => exact Kd.R_tight rfl HO_11.out); rintro e w87 ⟨rfl, hy0, hb, hkp⟩; refine ⟨_, rfl, ?_⟩; have n0_ := Aside0.mk (Kd.R_reok rfl hy0 (fun k_ e_ => HO_11.out.1 k_ e_)); have n1_ := Aside0.mk (Kd.R_mono (ok' := fun k_ => some k_ ≠ (.slice Ao40 t919.length co40 : Value).ownBlock ∧ some k_ ≠ (.slice Ao37 t915.length co37 : Value).ownBlock ∧ some k_ ≠ (.slice Ao47 t924.length co47 : Value).ownBlock ∧ some k_ ≠ (.slice Ao78 t932.length co78 : Value).ownBlock ∧ some k_ ≠ (.slice Ao81 t936.length co81 : Value).ownBlock) (Kd.R_keptB (HO_913002.out) hkp (fun k_ hk_ hs_ => (hk_.1) hs_)) (fun k_ hk_ => ⟨hk_.1.1, hk_.1.2.1, hk_.1.2.2.1, hk_.1.2.2.2.1, hk_.1.2.2.2.2⟩)); have n2_ := Aside0.mk (Kd.R_mono (ok' := fun k_ => some k_ ≠ (.slice Ao40 t919.length co40 : Value).ownBlock ∧ some k_ ≠ (.slice Ao30 t908.length co30 : Value).ownBlock ∧ some k_ ≠ (.slice Ao47 t924.length co47 : Value).ownBlock ∧ some k_ ≠ (.slice Ao78 t932.length co78 : Value).ownBlock ∧ some k_ ≠ (.slice Ao81 t936.length co81 : Value).ownBlock) (Kd.R_keptB (HO_919002.out) hkp (fun k_ hk_ hs_ => (hk_.1.1.1) hs_)) (fun k_ hk_ => ⟨hk_.1.1.1.1, hk_.1.1.1.2.1, hk_.1.1.1.2.2, hk_.1.1.2, hk_.1.2⟩)); have n3_ := Aside0.mk (Kd.R_mono (ok' := fun k_ => some k_ ≠ (.slice Ao40 t919.length co40 : Value).ownBlock ∧ some k_ ≠ (.slice Ao30 t908.length co30 : Value).ownBlock ∧ some k_ ≠ (.slice Ao37 t915.length co37 : Value).ownBlock ∧ some k_ ≠ (.slice Ao78 t932.length co78 : Value).ownBlock ∧ some k_ ≠ (.slice Ao81 t936.length co81 : Value).ownBlock) (Kd.R_keptB (HO_929002.out) hkp (fun k_ hk_ hs_ => (hk_.1) hs_)) (fun k_ hk_ => ⟨hk_.1.1, hk_.1.2.1, hk_.1.2.2.1, hk_.1.2.2.2.1, hk_.1.2.2.2.2⟩)); have n4_ := Aside0.mk (blk_kept BK896.out hkp (fun hs_ => (fun e_ => (Kd.R_ne HO_11.out BK896.out (by decide)) e_) hs_)); have n5_ := Aside0.mk (blk_kept BK912.out hkp (fun hs_ => (fun e_ => (Kd.R_ne HO_11.out BK912.out (by decide)) e_) hs_)); have n6_ := Aside0.mk (blk_kept BK918.out hkp (fun hs_ => (fun e_ => (Kd.R_ne HO_11.out BK918.out (by decide)) e_) hs_)); have n7_ := Aside0.mk (blk_kept BK928.out hkp (fun hs_ => (fun e_ => (Kd.R_ne HO_11.out BK928.out (by decide)) e_) hs_)); have n8_ := Aside0.mk (Kd.R_mono (ok' := fun k_ => some k_ ≠ (.slice Ao40 t919.length co40 : Value).ownBlock ∧ some k_ ≠ (.slice Ao30 t908.length co30 : Value).ownBlock ∧ some k_ ≠ (.slice Ao37 t915.length co37 : Value).ownBlock ∧ some k_ ≠ (.slice Ao47 t924.length co47 : Value).ownBlock ∧ some k_ ≠ (.slice Ao81 t936.length co81 : Value).ownBlock) (Kd.R_keptB (HO934.out) hkp (fun k_ hk_ hs_ => (hk_.1) hs_)) (fun k_ hk_ => ⟨hk_.1.1, hk_.1.2.1, hk_.1.2.2.1, hk_.1.2.2.2.1, hk_.1.2.2.2.2⟩)); have n9_ := Aside0.mk (Kd.R_mono (ok' := fun k_ => some k_ ≠ (.slice Ao40 t919.length co40 : Value).ownBlock ∧ some k_ ≠ (.slice Ao30 t908.length co30 : Value).ownBlock ∧ some k_ ≠ (.slice Ao37 t915.length co37 : Value).ownBlock ∧ some k_ ≠ (.slice Ao47 t924.length co47 : Value).ownBlock ∧ some k_ ≠ (.slice Ao78 t932.length co78 : Value).ownBlock) (Kd.R_keptB (HO938.out) hkp (fun k_ hk_ hs_ => (hk_.1) hs_)) (fun k_ hk_ => ⟨hk_.1.1, hk_.1.2.1, hk_.1.2.2.1, hk_.1.2.2.2.1, hk_.1.2.2.2.2⟩)); have n10_ := Aside0.mk (hb); clear HO_11; clear HO_913002; clear HO_919002; clear HO_929002; clear BK896; clear BK912; clear BK918; clear BK928; clear HO934; clear HO938; clear HB; have HO_11 := n0_; have HO_913002 := n1_; have HO_919002 := n2_; have HO_929002 := n3_; have BK896 := n4_; have BK912 := n5_; have BK918 := n6_; have BK928 := n7_; have HO934 := n8_; have HO938 := n9_; have HB := n10_; clear n0_ n1_ n2_ n3_ n4_ n5_ n6_ n7_ n8_ n9_ n10_; (try clear hb); (try clear hkp); (try clear hy0)))
                  (try simp only [Act.put, List.setIfInBounds_toArray, List.set_cons_zero, List.set_cons_succ])
                  go_cut [84] (fun v84 wc => ∃ (kq : Nat) (x84_74 : Bool), v84 = .bool x84_74 ∧ Aside0 (laws_FnExactAddToRegion.j1 kq l1 a2 t911 x84_74 a0_0 a0_1 l0_2 t906 t907 t908 t922 t923 t924 = some r) ∧ Aside0 (kq ≤ kj16) ∧ Aside0 (Kd.R (Kd.int .i64) 3 wc w.heap.size (fun k_ => some k_ ≠ ((.slice Ao37 t915.length co37) : Value).ownBlock ∧ some k_ ≠ ((.slice Ao47 t924.length co47) : Value).ownBlock) (.slice Ao30 t908.length co30) t908) ∧ Aside0 (Kd.R (Kd.int .i64) 3 wc w.heap.size (fun k_ => some k_ ≠ ((.slice Ao30 t908.length co30) : Value).ownBlock ∧ some k_ ≠ ((.slice Ao47 t924.length co47) : Value).ownBlock) (.slice Ao37 t915.length co37) t941) ∧ Aside0 (Kd.R (Kd.int .i64) 3 wc w.heap.size (fun k_ => some k_ ≠ ((.slice Ao30 t908.length co30) : Value).ownBlock ∧ some k_ ≠ ((.slice Ao37 t915.length co37) : Value).ownBlock) (.slice Ao47 t924.length co47) t924) ∧ Aside0 (wc.heap[gb896]? = some (.cells #[.int .i64 a0_0, .int .i64 a0_1, (.slice A0_2 l0_2.length c0_2)] 36 (0, 0))) ∧ Aside0 (wc.heap[gb912]? = some (.cells #[.int .i64 t906, .int .i64 t907, (.slice Ao30 t908.length co30)] 26 (0, 0))) ∧ Aside0 (wc.heap[gb918]? = some (.cells #[.int .i64 t913, .int .i64 t914, (.slice Ao37 t915.length co37)] 26 (0, 0))) ∧ Aside0 (wc.heap[gb928]? = some (.cells #[.int .i64 t922, .int .i64 t923, (.slice Ao47 t924.length co47)] 26 (0, 0))) ∧ Aside0 (Below w.heap.size w wc))
                  case first =>
                    as_aux_lemma =>
                      have H := HC75.out
                      clear HC75
                      by_cases c88 : t942 < 0
                      · rw [if_pos c88] at H
                        have c88b0 : decide (t942 < 0) = true := decide_eq_true c88
                        clear c88
                        (first | rw [c88b0] | (simp only [i64_w, i32_w]; rw [c88b0]) | skip)
                        have H' := Aside0.mk H
                        clear H
                        go_wp2
                        go_meet
                        case rel => exact ⟨_, (true), (by first | rfl | (simp; done) | (simp [*]; done)), H', ⟨by have := HJ16.out; first | omega | exact Nat.le_refl _⟩, ⟨by (with_reducible repeat (first | apply Kd.R_alloc | apply Kd.R_drewN | apply Kd.R_drew)); exact Kd.R_mono HO_913002.out (fun _ hk => ⟨hk.2.1, hk.2.2.1⟩)⟩, ⟨by (with_reducible repeat (first | apply Kd.R_alloc | apply Kd.R_drewN | apply Kd.R_drew)); exact Kd.R_mono HO_919002.out (fun _ hk => ⟨hk.2.1, hk.2.2.1⟩)⟩, ⟨by (with_reducible repeat (first | apply Kd.R_alloc | apply Kd.R_drewN | apply Kd.R_drew)); exact Kd.R_mono HO_929002.out (fun _ hk => ⟨hk.2.1, hk.2.2.1⟩)⟩, ⟨by (with_reducible repeat (first | refine blk_drewN ?_ _ | refine blk_drew ?_ | refine blk_alloc ?_ _)); exact BK896.out⟩, ⟨by (with_reducible repeat (first | refine blk_drewN ?_ _ | refine blk_drew ?_ | refine blk_alloc ?_ _)); exact BK912.out⟩, ⟨by (with_reducible repeat (first | refine blk_drewN ?_ _ | refine blk_drew ?_ | refine blk_alloc ?_ _)); exact BK918.out⟩, ⟨by (with_reducible repeat (first | refine blk_drewN ?_ _ | refine blk_drew ?_ | refine blk_alloc ?_ _)); exact BK928.out⟩, ⟨by repeat (first | (with_reducible first | exact HB.out | apply below_alloc | apply pw_below_drewN | apply below_drew1 | refine below_set ?_ GE896.out | refine below_set ?_ GE912.out | refine below_set ?_ GE918.out | refine below_set ?_ GE928.out) | exact HB.out)⟩⟩
                      · rw [if_neg c88] at H
                        have c88b0 : decide (t942 < 0) = false := decide_eq_false c88
                        clear c88
                        (first | rw [c88b0] | (simp only [i64_w, i32_w]; rw [c88b0]) | skip)
                        replace H := Option.bind_eq_some_iff.mp H
                        obtain ⟨t944, A890, H⟩ := H
                        replace H : (if t944 = true then (laws_FnExactAddToRegion.j1 kj16 l1 a2 t911 (t927 != t911) a0_0 a0_1 l0_2 t906 t907 t908 t922 t923 t924) else (laws_FnExactAddToRegion.j1 kj16 l1 a2 t911 true a0_0 a0_1 l0_2 t906 t907 t908 t922 t923 t924)) = some r := H
                        have A89 := Aside0.mk A890
                        clear A890
                        by_cases c90 : t944 = true
                        · subst c90
                          have H1 : (laws_FnExactAddToRegion.j1 kj16 l1 a2 t911 (t927 != t911) a0_0 a0_1 l0_2 t906 t907 t908 t922 t923 t924) = some r := by rw [if_pos rfl] at H; exact H
                          clear H
                          have H := H1
                          clear H1
                          have H' := Aside0.mk H
                          clear H
                          have hnb91 := NB928_896.out
                          have hnc91 := NB896_928.out
                          have hnb92 := NB928_912.out
                          have hnc92 := NB912_928.out
                          have hnb93 := NB928_918.out
                          have hnc93 := NB918_928.out
                          have hcz94_0 : w87.cell? ⟨gb928, 0, none⟩ = some (.int .i64 t922) := (blk_cell BK928.out 0).trans rfl
                          have hcz94_1 : w87.cell? ⟨gb928, 1, none⟩ = some (.int .i64 t923) := (blk_cell BK928.out 1).trans rfl
                          have hcz94_2 : w87.cell? ⟨gb928, 2, none⟩ = some (.slice Ao47 t924.length co47) := (blk_cell BK928.out 2).trans rfl
                          have hfz94_0 := blk_frozen BK928.out 0
                          have hfz94_1 := blk_frozen BK928.out 1
                          have hfz94_2 := blk_frozen BK928.out 2
                          have hnb95 := NB912_896.out
                          have hnc95 := NB896_912.out
                          have hnb96 := NB912_918.out
                          have hnc96 := NB918_912.out
                          have hcz97_0 : w87.cell? ⟨gb912, 0, none⟩ = some (.int .i64 t906) := (blk_cell BK912.out 0).trans rfl
                          have hcz97_1 : w87.cell? ⟨gb912, 1, none⟩ = some (.int .i64 t907) := (blk_cell BK912.out 1).trans rfl
                          have hcz97_2 : w87.cell? ⟨gb912, 2, none⟩ = some (.slice Ao30 t908.length co30) := (blk_cell BK912.out 2).trans rfl
                          have hfz97_0 := blk_frozen BK912.out 0
                          have hfz97_1 := blk_frozen BK912.out 1
                          have hfz97_2 := blk_frozen BK912.out 2
                          go_wp2_with (first | (go_at_call 25; (with_reducible refine (laws_eqField.calls kj16 t922 t923 _ _ t924 t906 t907 _ _ t908 true _ ?side1 ?side2 ?side3 ?side4 A89.out).mono ?_); (case side1 => repeat (first | exact (Kd.R_reads' HO_929002.out).2.2 | (with_reducible refine Kd.C_alloc ?_ _) | (with_reducible refine Kd.C_drewN ?_ _) | (with_reducible refine Kd.C_drew ?_))); (case side2 => exact (Kd.R_reads' HO_929002.out).2.1); (case side3 => repeat (first | exact (Kd.R_reads' HO_913002.out).2.2 | (with_reducible refine Kd.C_alloc ?_ _) | (with_reducible refine Kd.C_drewN ?_ _) | (with_reducible refine Kd.C_drew ?_))); (case side4 => exact (Kd.R_reads' HO_913002.out).2.1); rintro e w98 ⟨rfl, hb⟩; have n0_ := Aside0.mk (Kd.R_below (by (with_reducible repeat (first | apply Kd.R_alloc | apply Kd.R_drewN | apply Kd.R_drew)); exact HO_11.out) hb); have n1_ := Aside0.mk (Kd.R_below (by (with_reducible repeat (first | apply Kd.R_alloc | apply Kd.R_drewN | apply Kd.R_drew)); exact HO_913002.out) hb); have n2_ := Aside0.mk (Kd.R_below (by (with_reducible repeat (first | apply Kd.R_alloc | apply Kd.R_drewN | apply Kd.R_drew)); exact HO_919002.out) hb); have n3_ := Aside0.mk (Kd.R_below (by (with_reducible repeat (first | apply Kd.R_alloc | apply Kd.R_drewN | apply Kd.R_drew)); exact HO_929002.out) hb); have n4_ := Aside0.mk (Kd.R_below (by (with_reducible repeat (first | apply Kd.R_alloc | apply Kd.R_drewN | apply Kd.R_drew)); exact HO934.out) hb); have n5_ := Aside0.mk (Kd.R_below (by (with_reducible repeat (first | apply Kd.R_alloc | apply Kd.R_drewN | apply Kd.R_drew)); exact HO938.out) hb); have n6_ := Aside0.mk (blk_below (g := gb896) (o := .cells #[.int .i64 a0_0, .int .i64 a0_1, .slice A0_2 l0_2.length c0_2] 36 (0, 0)) BK896.out hb); have n7_ := Aside0.mk (blk_below (g := gb912) (o := .cells #[.int .i64 t906, .int .i64 t907, .slice Ao30 t908.length co30] 26 (0, 0)) BK912.out hb); have n8_ := Aside0.mk (blk_below (g := gb918) (o := .cells #[.int .i64 t913, .int .i64 t914, .slice Ao37 t915.length co37] 26 (0, 0)) BK918.out hb); have n9_ := Aside0.mk (blk_below (g := gb928) (o := .cells #[.int .i64 t922, .int .i64 t923, .slice Ao47 t924.length co47] 26 (0, 0)) BK928.out hb); have n10_ := Aside0.mk (below_step (by repeat (first | (with_reducible first | exact HB.out | apply below_alloc | apply pw_below_drewN | apply below_drew1 | refine below_set ?_ GE896.out | refine below_set ?_ GE912.out | refine below_set ?_ GE918.out | refine below_set ?_ GE928.out) | exact HB.out)) hb); clear HO_11; clear HO_913002; clear HO_919002; clear HO_929002; clear HO934; clear HO938; clear BK896; clear BK912; clear BK918; clear BK928; clear HB; have HO_11 := n0_; have HO_913002 := n1_; have HO_919002 := n2_; have HO_929002 := n3_; have HO934 := n4_; have HO938 := n5_; have BK896 := n6_; have BK912 := n7_; have BK918 := n8_; have BK928 := n9_; have HB := n10_; clear n0_ n1_ n2_ n3_ n4_ n5_ n6_ n7_ n8_ n9_ n10_; (try clear hb); (try clear hb2); (try clear hk); (try clear hi)))
                          go_meet
                          case rel => exact ⟨_, ((t927 != t911)), (by first | rfl | (simp; done) | (simp [*]; done)), H', ⟨by have := HJ16.out; first | omega | exact Nat.le_refl _⟩, ⟨by (with_reducible repeat (first | apply Kd.R_alloc | apply Kd.R_drewN | apply Kd.R_drew)); exact Kd.R_mono HO_913002.out (fun _ hk => ⟨hk.2.1, hk.2.2.1⟩)⟩, ⟨by (with_reducible repeat (first | apply Kd.R_alloc | apply Kd.R_drewN | apply Kd.R_drew)); exact Kd.R_mono HO_919002.out (fun _ hk => ⟨hk.2.1, hk.2.2.1⟩)⟩, ⟨by (with_reducible repeat (first | apply Kd.R_alloc | apply Kd.R_drewN | apply Kd.R_drew)); exact Kd.R_mono HO_929002.out (fun _ hk => ⟨hk.2.1, hk.2.2.1⟩)⟩, ⟨by (with_reducible repeat (first | refine blk_drewN ?_ _ | refine blk_drew ?_ | refine blk_alloc ?_ _)); exact BK896.out⟩, ⟨by (with_reducible repeat (first | refine blk_drewN ?_ _ | refine blk_drew ?_ | refine blk_alloc ?_ _)); exact BK912.out⟩, ⟨by (with_reducible repeat (first | refine blk_drewN ?_ _ | refine blk_drew ?_ | refine blk_alloc ?_ _)); exact BK918.out⟩, ⟨by (with_reducible repeat (first | refine blk_drewN ?_ _ | refine blk_drew ?_ | refine blk_alloc ?_ _)); exact BK928.out⟩, ⟨by repeat (first | (with_reducible first | exact HB.out | apply below_alloc | apply pw_below_drewN | apply below_drew1 | refine below_set ?_ GE896.out | refine below_set ?_ GE912.out | refine below_set ?_ GE918.out | refine below_set ?_ GE928.out) | exact HB.out)⟩⟩
                        · replace c90 := Bool.eq_false_iff.mpr c90
                          subst c90
                          have H1 : (laws_FnExactAddToRegion.j1 kj16 l1 a2 t911 true a0_0 a0_1 l0_2 t906 t907 t908 t922 t923 t924) = some r := by rw [if_neg (show ¬ (false = true) by decide)] at H; exact H
                          clear H
                          have H := H1
                          clear H1
                          have H' := Aside0.mk H
                          clear H
                          have hnb99 := NB928_896.out
                          have hnc99 := NB896_928.out
                          have hnb100 := NB928_912.out
                          have hnc100 := NB912_928.out
                          have hnb101 := NB928_918.out
                          have hnc101 := NB918_928.out
                          have hcz102_0 : w87.cell? ⟨gb928, 0, none⟩ = some (.int .i64 t922) := (blk_cell BK928.out 0).trans rfl
                          have hcz102_1 : w87.cell? ⟨gb928, 1, none⟩ = some (.int .i64 t923) := (blk_cell BK928.out 1).trans rfl
                          have hcz102_2 : w87.cell? ⟨gb928, 2, none⟩ = some (.slice Ao47 t924.length co47) := (blk_cell BK928.out 2).trans rfl
                          have hfz102_0 := blk_frozen BK928.out 0
                          have hfz102_1 := blk_frozen BK928.out 1
                          have hfz102_2 := blk_frozen BK928.out 2
                          have hnb103 := NB912_896.out
                          have hnc103 := NB896_912.out
                          have hnb104 := NB912_918.out
                          have hnc104 := NB918_912.out
                          have hcz105_0 : w87.cell? ⟨gb912, 0, none⟩ = some (.int .i64 t906) := (blk_cell BK912.out 0).trans rfl
                          have hcz105_1 : w87.cell? ⟨gb912, 1, none⟩ = some (.int .i64 t907) := (blk_cell BK912.out 1).trans rfl
                          have hcz105_2 : w87.cell? ⟨gb912, 2, none⟩ = some (.slice Ao30 t908.length co30) := (blk_cell BK912.out 2).trans rfl
                          have hfz105_0 := blk_frozen BK912.out 0
                          have hfz105_1 := blk_frozen BK912.out 1
                          have hfz105_2 := blk_frozen BK912.out 2
                          go_wp2_with (first | (go_at_call 25; (with_reducible refine (laws_eqField.calls kj16 t922 t923 _ _ t924 t906 t907 _ _ t908 false _ ?side1 ?side2 ?side3 ?side4 A89.out).mono ?_); (case side1 => repeat (first | exact (Kd.R_reads' HO_929002.out).2.2 | (with_reducible refine Kd.C_alloc ?_ _) | (with_reducible refine Kd.C_drewN ?_ _) | (with_reducible refine Kd.C_drew ?_))); (case side2 => exact (Kd.R_reads' HO_929002.out).2.1); (case side3 => repeat (first | exact (Kd.R_reads' HO_913002.out).2.2 | (with_reducible refine Kd.C_alloc ?_ _) | (with_reducible refine Kd.C_drewN ?_ _) | (with_reducible refine Kd.C_drew ?_))); (case side4 => exact (Kd.R_reads' HO_913002.out).2.1); rintro e w106 ⟨rfl, hb⟩; have n0_ := Aside0.mk (Kd.R_below (by (with_reducible repeat (first | apply Kd.R_alloc | apply Kd.R_drewN | apply Kd.R_drew)); exact HO_11.out) hb); have n1_ := Aside0.mk (Kd.R_below (by (with_reducible repeat (first | apply Kd.R_alloc | apply Kd.R_drewN | apply Kd.R_drew)); exact HO_913002.out) hb); have n2_ := Aside0.mk (Kd.R_below (by (with_reducible repeat (first | apply Kd.R_alloc | apply Kd.R_drewN | apply Kd.R_drew)); exact HO_919002.out) hb); have n3_ := Aside0.mk (Kd.R_below (by (with_reducible repeat (first | apply Kd.R_alloc | apply Kd.R_drewN | apply Kd.R_drew)); exact HO_929002.out) hb); have n4_ := Aside0.mk (Kd.R_below (by (with_reducible repeat (first | apply Kd.R_alloc | apply Kd.R_drewN | apply Kd.R_drew)); exact HO934.out) hb); have n5_ := Aside0.mk (Kd.R_below (by (with_reducible repeat (first | apply Kd.R_alloc | apply Kd.R_drewN | apply Kd.R_drew)); exact HO938.out) hb); have n6_ := Aside0.mk (blk_below (g := gb896) (o := .cells #[.int .i64 a0_0, .int .i64 a0_1, .slice A0_2 l0_2.length c0_2] 36 (0, 0)) BK896.out hb); have n7_ := Aside0.mk (blk_below (g := gb912) (o := .cells #[.int .i64 t906, .int .i64 t907, .slice Ao30 t908.length co30] 26 (0, 0)) BK912.out hb); have n8_ := Aside0.mk (blk_below (g := gb918) (o := .cells #[.int .i64 t913, .int .i64 t914, .slice Ao37 t915.length co37] 26 (0, 0)) BK918.out hb); have n9_ := Aside0.mk (blk_below (g := gb928) (o := .cells #[.int .i64 t922, .int .i64 t923, .slice Ao47 t924.length co47] 26 (0, 0)) BK928.out hb); have n10_ := Aside0.mk (below_step (by repeat (first | (with_reducible first | exact HB.out | apply below_alloc | apply pw_below_drewN | apply below_drew1 | refine below_set ?_ GE896.out | refine below_set ?_ GE912.out | refine below_set ?_ GE918.out | refine below_set ?_ GE928.out) | exact HB.out)) hb); clear HO_11; clear HO_913002; clear HO_919002; clear HO_929002; clear HO934; clear HO938; clear BK896; clear BK912; clear BK918; clear BK928; clear HB; have HO_11 := n0_; have HO_913002 := n1_; have HO_919002 := n2_; have HO_929002 := n3_; have HO934 := n4_; have HO938 := n5_; have BK896 := n6_; have BK912 := n7_; have BK918 := n8_; have BK928 := n9_; have HB := n10_; clear n0_ n1_ n2_ n3_ n4_ n5_ n6_ n7_ n8_ n9_ n10_; (try clear hb); (try clear hb2); (try clear hk); (try clear hi)))
                          go_meet
                          case rel => exact ⟨_, (true), (by first | rfl | (simp; done) | (simp [*]; done)), H', ⟨by have := HJ16.out; first | omega | exact Nat.le_refl _⟩, ⟨by (with_reducible repeat (first | apply Kd.R_alloc | apply Kd.R_drewN | apply Kd.R_drew)); exact Kd.R_mono HO_913002.out (fun _ hk => ⟨hk.2.1, hk.2.2.1⟩)⟩, ⟨by (with_reducible repeat (first | apply Kd.R_alloc | apply Kd.R_drewN | apply Kd.R_drew)); exact Kd.R_mono HO_919002.out (fun _ hk => ⟨hk.2.1, hk.2.2.1⟩)⟩, ⟨by (with_reducible repeat (first | apply Kd.R_alloc | apply Kd.R_drewN | apply Kd.R_drew)); exact Kd.R_mono HO_929002.out (fun _ hk => ⟨hk.2.1, hk.2.2.1⟩)⟩, ⟨by (with_reducible repeat (first | refine blk_drewN ?_ _ | refine blk_drew ?_ | refine blk_alloc ?_ _)); exact BK896.out⟩, ⟨by (with_reducible repeat (first | refine blk_drewN ?_ _ | refine blk_drew ?_ | refine blk_alloc ?_ _)); exact BK912.out⟩, ⟨by (with_reducible repeat (first | refine blk_drewN ?_ _ | refine blk_drew ?_ | refine blk_alloc ?_ _)); exact BK918.out⟩, ⟨by (with_reducible repeat (first | refine blk_drewN ?_ _ | refine blk_drew ?_ | refine blk_alloc ?_ _)); exact BK928.out⟩, ⟨by repeat (first | (with_reducible first | exact HB.out | apply below_alloc | apply pw_below_drewN | apply below_drew1 | refine below_set ?_ GE896.out | refine below_set ?_ GE912.out | refine below_set ?_ GE918.out | refine below_set ?_ GE928.out) | exact HB.out)⟩⟩
                  case rest =>
                    as_aux_lemma =>
                      clear HC75
                      try clear c1
                      try clear c2
                      try clear p2
                      try clear c3
                      try clear c4
                      try clear c4b0
                      try clear c4b1
                      try clear c5
                      try clear c6
                      try clear c7
                      try clear c7b0
                      try clear c8
                      try clear c9
                      try clear c10
                      try clear c20
                      try clear c22
                      try clear c23
                      try clear c25
                      try clear c26
                      try clear c27
                      try clear c28
                      try clear c32
                      try clear c33
                      try clear c34
                      try clear c35
                      try clear c43
                      try clear c44
                      try clear c45
                      try clear c49
                      try clear c50
                      try clear c51
                      try clear c52
                      try clear c54
                      try clear c55
                      try clear c58
                      try clear c59
                      try clear c60
                      try clear c62
                      try clear c63
                      try clear c66
                      try clear c69
                      try clear c72
                      try clear c82
                      try clear c83
                      try clear c84
                      try clear c88
                      try clear c88b0
                      try clear c90
                      try clear c91
                      try clear c92
                      try clear c93
                      try clear c95
                      try clear c96
                      try clear c99
                      try clear c100
                      try clear c101
                      try clear c103
                      try clear c104
                      try clear hcz102_0
                      try clear hcz102_1
                      try clear hcz102_2
                      try clear hcz105_0
                      try clear hcz105_1
                      try clear hcz105_2
                      try clear hcz19_0
                      try clear hcz19_1
                      try clear hcz19_2
                      try clear hcz21_0
                      try clear hcz21_1
                      try clear hcz21_2
                      try clear hcz29_0
                      try clear hcz29_1
                      try clear hcz29_2
                      try clear hcz31_0
                      try clear hcz31_1
                      try clear hcz31_2
                      try clear hcz36_0
                      try clear hcz36_1
                      try clear hcz36_2
                      try clear hcz39_0
                      try clear hcz39_1
                      try clear hcz39_2
                      try clear hcz46_0
                      try clear hcz46_1
                      try clear hcz46_2
                      try clear hcz53_0
                      try clear hcz53_1
                      try clear hcz53_2
                      try clear hcz56_0
                      try clear hcz56_1
                      try clear hcz56_2
                      try clear hcz61_0
                      try clear hcz61_1
                      try clear hcz61_2
                      try clear hcz64_0
                      try clear hcz64_1
                      try clear hcz64_2
                      try clear hcz85_0
                      try clear hcz85_1
                      try clear hcz85_2
                      try clear hcz94_0
                      try clear hcz94_1
                      try clear hcz94_2
                      try clear hcz97_0
                      try clear hcz97_1
                      try clear hcz97_2
                      try clear hcz9_0
                      try clear hcz9_1
                      try clear hcz9_2
                      try clear hfz102_0
                      try clear hfz102_1
                      try clear hfz102_2
                      try clear hfz105_0
                      try clear hfz105_1
                      try clear hfz105_2
                      try clear hfz19_0
                      try clear hfz19_1
                      try clear hfz19_2
                      try clear hfz21_0
                      try clear hfz21_1
                      try clear hfz21_2
                      try clear hfz29_0
                      try clear hfz29_1
                      try clear hfz29_2
                      try clear hfz31_0
                      try clear hfz31_1
                      try clear hfz31_2
                      try clear hfz36_0
                      try clear hfz36_1
                      try clear hfz36_2
                      try clear hfz39_0
                      try clear hfz39_1
                      try clear hfz39_2
                      try clear hfz46_0
                      try clear hfz46_1
                      try clear hfz46_2
                      try clear hfz53_0
                      try clear hfz53_1
                      try clear hfz53_2
                      try clear hfz56_0
                      try clear hfz56_1
                      try clear hfz56_2
                      try clear hfz61_0
                      try clear hfz61_1
                      try clear hfz61_2
                      try clear hfz64_0
                      try clear hfz64_1
                      try clear hfz64_2
                      try clear hfz85_0
                      try clear hfz85_1
                      try clear hfz85_2
                      try clear hfz94_0
                      try clear hfz94_1
                      try clear hfz94_2
                      try clear hfz97_0
                      try clear hfz97_1
                      try clear hfz97_2
                      try clear hfz9_0
                      try clear hfz9_1
                      try clear hfz9_2
                      try clear p2
                      obtain ⟨kq, x84_74, rfl, HA, HJ74, HO_913002, HO_919002, HO_929002, BK896, BK912, BK918, BK928, HB⟩ := hcut
                      have hl919002_74 := (Kd.R_reads' HO_919002.out).1
                      rw [hl919002_74] at HO_919002
                      (try simp only [hl919002_74])
                      (try simp only [hl919002_74] at BK896)
                      (try simp only [hl919002_74] at BK912)
                      (try simp only [hl919002_74] at BK918)
                      (try simp only [hl919002_74] at BK928)
                      (try simp only [hl919002_74] at HO_913002)
                      (try simp only [hl919002_74] at HO_929002)
                      cases kq with
                      | zero => exact absurd HA.out (by simp [laws_FnExactAddToRegion.j1])
                      | succ kj74 =>
                        have H := HA.out
                        clear HA
                        simp only [laws_FnExactAddToRegion.j1] at H
                        by_cases c107 : x84_74 = true
                        · subst c107
                          have H1 : (some false) = some r := by rw [if_pos rfl] at H; exact H
                          exact absurd ((Option.some.inj H1).trans hrt_) (by decide)
                        · replace c107 := Bool.eq_false_iff.mpr c107
                          subst c107
                          have H1 : ((laws_markField.f kj74 t922 t923 t924 1).bind fun bt945 => ((laws_heldField.f kj74 t922 t923 bt945.2 1).bind fun t947 => (if t947 < 0 then (some false) else (if t947 = bt945.1 then ((laws_toField.f kj74 a0_0 a0_1 l0_2).bind fun bt948 => ((laws_toIntS.f kj74 l1).bind fun t953 => ((impl_AddToRegion.f kj74 bt948.1 bt948.2.1 bt948.2.2 t953 a2).bind fun bt956 => ((laws_eqField.f kj74 bt956.1 bt956.2.1 bt956.2.2.1 t906 t907 t908).bind fun t963 => (if t963 = true then (laws_FnExactAddToRegion.j2 kj74 bt945.1 (bt956.2.2.2 != t911) t922 t923 bt945.2) else (laws_FnExactAddToRegion.j2 kj74 bt945.1 true t922 t923 bt945.2)))))) else (some false))))) = some r := by rw [if_neg (show ¬ (false = true) by decide)] at H; exact H
                          clear H
                          have H := H1
                          clear H1
                          replace H := Option.bind_eq_some_iff.mp H
                          obtain ⟨⟨t945, t946⟩, A1080, H⟩ := H
                          replace H : ((laws_heldField.f kj74 t922 t923 t946 1).bind fun t947 => (if t947 < 0 then (some false) else (if t947 = t945 then ((laws_toField.f kj74 a0_0 a0_1 l0_2).bind fun bt948 => ((laws_toIntS.f kj74 l1).bind fun t953 => ((impl_AddToRegion.f kj74 bt948.1 bt948.2.1 bt948.2.2 t953 a2).bind fun bt956 => ((laws_eqField.f kj74 bt956.1 bt956.2.1 bt956.2.2.1 t906 t907 t908).bind fun t963 => (if t963 = true then (laws_FnExactAddToRegion.j2 kj74 t945 (bt956.2.2.2 != t911) t922 t923 t946) else (laws_FnExactAddToRegion.j2 kj74 t945 true t922 t923 t946)))))) else (some false)))) = some r := H
                          have A108 := Aside0.mk A1080
                          clear A1080
                          replace H := Option.bind_eq_some_iff.mp H
                          obtain ⟨t947, A1090, H⟩ := H
                          replace H : (if t947 < 0 then (some false) else (if t947 = t945 then ((laws_toField.f kj74 a0_0 a0_1 l0_2).bind fun bt948 => ((laws_toIntS.f kj74 l1).bind fun t953 => ((impl_AddToRegion.f kj74 bt948.1 bt948.2.1 bt948.2.2 t953 a2).bind fun bt956 => ((laws_eqField.f kj74 bt956.1 bt956.2.1 bt956.2.2.1 t906 t907 t908).bind fun t963 => (if t963 = true then (laws_FnExactAddToRegion.j2 kj74 t945 (bt956.2.2.2 != t911) t922 t923 t946) else (laws_FnExactAddToRegion.j2 kj74 t945 true t922 t923 t946)))))) else (some false))) = some r := H
                          have A109 := Aside0.mk A1090
                          clear A1090
                          by_cases c110 : t947 < 0
                          · rw [if_pos c110] at H
                            have c110b0 : decide (t947 < 0) = true := decide_eq_true c110
                            clear c110
                            obtain rfl := Option.some.inj H
                            have hnb111 := NB928_896.out
                            have hnc111 := NB896_928.out
                            have hnb112 := NB928_912.out
                            have hnc112 := NB912_928.out
                            have hnb113 := NB928_918.out
                            have hnc113 := NB918_928.out
                            have hcz114_0 : wc.cell? ⟨gb928, 0, none⟩ = some (.int .i64 t922) := (blk_cell BK928.out 0).trans rfl
                            have hcz114_1 : wc.cell? ⟨gb928, 1, none⟩ = some (.int .i64 t923) := (blk_cell BK928.out 1).trans rfl
                            have hcz114_2 : wc.cell? ⟨gb928, 2, none⟩ = some (.slice Ao47 t924.length co47) := (blk_cell BK928.out 2).trans rfl
                            have hfz114_0 := blk_frozen BK928.out 0
                            have hfz114_1 := blk_frozen BK928.out 1
                            have hfz114_2 := blk_frozen BK928.out 2
                            go_wp2_with (first | ((with_reducible refine gate_callee (f := 27) rfl ?_); refine goesL_ (some 87) rfl rfl Try.func27 (by kernel_rfl) rfl #[.agg #[.int .i64 t922, .int .i64 t923, .slice Ao47 t924.length co47], .int .i64 1] rfl (by (try simp only [List.map_toArray, List.map_cons, List.map_nil]); first | done | rfl | (simp only [List.length_drop, List.length_take]; rfl)) ?_; (with_reducible refine (laws_markField.calls kj74 t922 t923 (fun k_ => some k_ = (.slice Ao47 t924.length co47 : Value).ownBlock) (.slice Ao47 t924.length co47) t924 1 t945 t946 w _ ?side1 ?side2 A108.out).mono ?_); (case side1 => repeat (first | (with_reducible first | exact HB.out | apply below_alloc | apply pw_below_drewN | apply below_drew1 | refine below_set ?_ GE896.out | refine below_set ?_ GE912.out | refine below_set ?_ GE918.out | refine below_set ?_ GE928.out) | exact HB.out)); (case side2 => exact Kd.R_tight rfl HO_929002.out); rintro e w115 ⟨rfl, hy0, hb, hkp⟩; refine ⟨_, rfl, ?_⟩; have n0_ := Aside0.mk (Kd.R_mono (ok' := fun k_ => some k_ ≠ (.slice Ao37 t941.length co37 : Value).ownBlock ∧ some k_ ≠ (.slice Ao47 t924.length co47 : Value).ownBlock) (Kd.R_keptB (HO_913002.out) hkp (fun k_ hk_ hs_ => (hk_.2) hs_)) (fun k_ hk_ => ⟨hk_.1.1, hk_.1.2⟩)); have n1_ := Aside0.mk (Kd.R_mono (ok' := fun k_ => some k_ ≠ (.slice Ao30 t908.length co30 : Value).ownBlock ∧ some k_ ≠ (.slice Ao47 t924.length co47 : Value).ownBlock) (Kd.R_keptB (HO_919002.out) hkp (fun k_ hk_ hs_ => (hk_.2) hs_)) (fun k_ hk_ => ⟨hk_.1.1, hk_.1.2⟩)); have n2_ := Aside0.mk (Kd.R_reok rfl hy0 (fun k_ e_ => HO_929002.out.1 k_ e_)); have n3_ := Aside0.mk (blk_kept BK896.out hkp (fun hs_ => (fun e_ => (Kd.R_ne HO_929002.out BK896.out (by decide)) e_) hs_)); have n4_ := Aside0.mk (blk_kept BK912.out hkp (fun hs_ => (fun e_ => (Kd.R_ne HO_929002.out BK912.out (by decide)) e_) hs_)); have n5_ := Aside0.mk (blk_kept BK918.out hkp (fun hs_ => (fun e_ => (Kd.R_ne HO_929002.out BK918.out (by decide)) e_) hs_)); have n6_ := Aside0.mk (blk_kept BK928.out hkp (fun hs_ => (fun e_ => (Kd.R_ne HO_929002.out BK928.out (by decide)) e_) hs_)); have n7_ := Aside0.mk (hb); clear HO_913002; clear HO_919002; clear HO_929002; clear BK896; clear BK912; clear BK918; clear BK928; clear HB; have HO_913002 := n0_; have HO_919002 := n1_; have HO_929002 := n2_; have BK896 := n3_; have BK912 := n4_; have BK918 := n5_; have BK928 := n6_; have HB := n7_; clear n0_ n1_ n2_ n3_ n4_ n5_ n6_ n7_; (try clear hb); (try clear hkp); (try clear hy0); have hcz116_0 : w115.cell? ⟨gb928, 0, none⟩ = some (.int .i64 t922) := (blk_cell BK928.out 0).trans rfl; have hcz116_1 : w115.cell? ⟨gb928, 1, none⟩ = some (.int .i64 t923) := (blk_cell BK928.out 1).trans rfl; have hcz116_2 : w115.cell? ⟨gb928, 2, none⟩ = some (.slice Ao47 t924.length co47) := (blk_cell BK928.out 2).trans rfl; have hfz116_0 := blk_frozen BK928.out 0; have hfz116_1 := blk_frozen BK928.out 1; have hfz116_2 := blk_frozen BK928.out 2) | ((with_reducible refine gate_callee (f := 29) rfl ?_); refine goesL_ (some 90) rfl rfl Try.func29 (by kernel_rfl) rfl #[.agg #[.int .i64 t922, .int .i64 t923, .slice Ao47 t946.length co47], .int .i64 1] rfl (by (try simp only [List.map_toArray, List.map_cons, List.map_nil]); first | done | (rw [show t946.length = t924.length from (Kd.R_reads' HO_929002.out).1.symm] <;> rfl) | rfl | (simp only [List.length_drop, List.length_take]; rfl)) ?_; (with_reducible refine (laws_heldField.calls kj74 t922 t923 _ _ t946 1 t947 _ ?side1 ?side2 A109.out).mono ?_); (case side1 => repeat (first | exact (Kd.R_reads' HO_929002.out).2.2 | (with_reducible refine Kd.C_alloc ?_ _) | (with_reducible refine Kd.C_drewN ?_ _) | (with_reducible refine Kd.C_drew ?_))); (case side2 => rw [show t946.length = t924.length from (Kd.R_reads' HO_929002.out).1.symm]; exact (Kd.R_reads' HO_929002.out).2.1); rintro e w117 ⟨rfl, hb⟩; refine ⟨_, rfl, ?_⟩; have n0_ := Aside0.mk (Kd.R_below (by (with_reducible repeat (first | apply Kd.R_alloc | apply Kd.R_drewN | apply Kd.R_drew)); exact HO_913002.out) hb); have n1_ := Aside0.mk (Kd.R_below (by (with_reducible repeat (first | apply Kd.R_alloc | apply Kd.R_drewN | apply Kd.R_drew)); exact HO_919002.out) hb); have n2_ := Aside0.mk (Kd.R_below (by (with_reducible repeat (first | apply Kd.R_alloc | apply Kd.R_drewN | apply Kd.R_drew)); exact HO_929002.out) hb); have n3_ := Aside0.mk (blk_below (g := gb896) (o := .cells #[.int .i64 a0_0, .int .i64 a0_1, .slice A0_2 l0_2.length c0_2] 36 (0, 0)) BK896.out hb); have n4_ := Aside0.mk (blk_below (g := gb912) (o := .cells #[.int .i64 t906, .int .i64 t907, .slice Ao30 t908.length co30] 26 (0, 0)) BK912.out hb); have n5_ := Aside0.mk (blk_below (g := gb918) (o := .cells #[.int .i64 t913, .int .i64 t914, .slice Ao37 t941.length co37] 26 (0, 0)) BK918.out hb); have n6_ := Aside0.mk (blk_below (g := gb928) (o := .cells #[.int .i64 t922, .int .i64 t923, .slice Ao47 t924.length co47] 26 (0, 0)) BK928.out hb); have n7_ := Aside0.mk (below_step (by repeat (first | (with_reducible first | exact HB.out | apply below_alloc | apply pw_below_drewN | apply below_drew1 | refine below_set ?_ GE896.out | refine below_set ?_ GE912.out | refine below_set ?_ GE918.out | refine below_set ?_ GE928.out) | exact HB.out)) hb); clear HO_913002; clear HO_919002; clear HO_929002; clear BK896; clear BK912; clear BK918; clear BK928; clear HB; have HO_913002 := n0_; have HO_919002 := n1_; have HO_929002 := n2_; have BK896 := n3_; have BK912 := n4_; have BK918 := n5_; have BK928 := n6_; have HB := n7_; clear n0_ n1_ n2_ n3_ n4_ n5_ n6_ n7_; (try clear hb); (try clear hb2); (try clear hk); (try clear hi)))
                            go_ret
                            exact ⟨by first | rfl | (simp [errW_none, errW_some] <;> rfl) | (simp [*, errW_none, errW_some] <;> rfl), by repeat (first | (with_reducible first | exact HB.out | apply below_alloc | apply pw_below_drewN | apply below_drew1 | refine below_set ?_ GE896.out | refine below_set ?_ GE912.out | refine below_set ?_ GE918.out | refine below_set ?_ GE928.out) | exact HB.out)⟩
                          · rw [if_neg c110] at H
                            have c110b0 : decide (t947 < 0) = false := decide_eq_false c110
                            clear c110
                            by_cases c118 : t947 = t945
                            · rw [if_pos c118] at H
                              have c118b0 : (t947 == t945) = true := beq_iff_eq.mpr c118
                              have c118b1 : (t947 != t945) = false := bne_eq_false_iff_eq.mpr c118
                              clear c118
                              replace H := Option.bind_eq_some_iff.mp H
                              obtain ⟨⟨t948, t949, t950⟩, A1190, H⟩ := H
                              replace H : ((laws_toIntS.f kj74 l1).bind fun t953 => ((impl_AddToRegion.f kj74 t948 t949 t950 t953 a2).bind fun bt956 => ((laws_eqField.f kj74 bt956.1 bt956.2.1 bt956.2.2.1 t906 t907 t908).bind fun t963 => (if t963 = true then (laws_FnExactAddToRegion.j2 kj74 t945 (bt956.2.2.2 != t911) t922 t923 t946) else (laws_FnExactAddToRegion.j2 kj74 t945 true t922 t923 t946))))) = some r := H
                              have A119 := Aside0.mk A1190
                              clear A1190
                              replace H := Option.bind_eq_some_iff.mp H
                              obtain ⟨t953, A1200, H⟩ := H
                              replace H : ((impl_AddToRegion.f kj74 t948 t949 t950 t953 a2).bind fun bt956 => ((laws_eqField.f kj74 bt956.1 bt956.2.1 bt956.2.2.1 t906 t907 t908).bind fun t963 => (if t963 = true then (laws_FnExactAddToRegion.j2 kj74 t945 (bt956.2.2.2 != t911) t922 t923 t946) else (laws_FnExactAddToRegion.j2 kj74 t945 true t922 t923 t946)))) = some r := H
                              have A120 := Aside0.mk A1200
                              clear A1200
                              replace H := Option.bind_eq_some_iff.mp H
                              obtain ⟨⟨t956, t957, t958, t961⟩, A1210, H⟩ := H
                              replace H : ((laws_eqField.f kj74 t956 t957 t958 t906 t907 t908).bind fun t963 => (if t963 = true then (laws_FnExactAddToRegion.j2 kj74 t945 (t961 != t911) t922 t923 t946) else (laws_FnExactAddToRegion.j2 kj74 t945 true t922 t923 t946))) = some r := H
                              have A121 := Aside0.mk A1210
                              clear A1210
                              have HC122 := Aside0.mk H
                              clear H
                              have hnb123 := NB928_896.out
                              have hnc123 := NB896_928.out
                              have hnb124 := NB928_912.out
                              have hnc124 := NB912_928.out
                              have hnb125 := NB928_918.out
                              have hnc125 := NB918_928.out
                              have hcz126_0 : wc.cell? ⟨gb928, 0, none⟩ = some (.int .i64 t922) := (blk_cell BK928.out 0).trans rfl
                              have hcz126_1 : wc.cell? ⟨gb928, 1, none⟩ = some (.int .i64 t923) := (blk_cell BK928.out 1).trans rfl
                              have hcz126_2 : wc.cell? ⟨gb928, 2, none⟩ = some (.slice Ao47 t924.length co47) := (blk_cell BK928.out 2).trans rfl
                              have hfz126_0 := blk_frozen BK928.out 0
                              have hfz126_1 := blk_frozen BK928.out 1
                              have hfz126_2 := blk_frozen BK928.out 2
                              go_upto_region 31 with (first | ((with_reducible refine gate_callee (f := 27) rfl ?_); refine goesL_ (some 87) rfl rfl Try.func27 (by kernel_rfl) rfl #[.agg #[.int .i64 t922, .int .i64 t923, .slice Ao47 t924.length co47], .int .i64 1] rfl (by (try simp only [List.map_toArray, List.map_cons, List.map_nil]); first | done | rfl | (simp only [List.length_drop, List.length_take]; rfl)) ?_; (with_reducible refine (laws_markField.calls kj74 t922 t923 (fun k_ => some k_ = (.slice Ao47 t924.length co47 : Value).ownBlock) (.slice Ao47 t924.length co47) t924 1 t945 t946 w _ ?side1 ?side2 A108.out).mono ?_); (case side1 => repeat (first | (with_reducible first | exact HB.out | apply below_alloc | apply pw_below_drewN | apply below_drew1 | refine below_set ?_ GE896.out | refine below_set ?_ GE912.out | refine below_set ?_ GE918.out | refine below_set ?_ GE928.out) | exact HB.out)); (case side2 => exact Kd.R_tight rfl HO_929002.out); rintro e w127 ⟨rfl, hy0, hb, hkp⟩; refine ⟨_, rfl, ?_⟩; have n0_ := Aside0.mk (Kd.R_mono (ok' := fun k_ => some k_ ≠ (.slice Ao37 t941.length co37 : Value).ownBlock ∧ some k_ ≠ (.slice Ao47 t924.length co47 : Value).ownBlock) (Kd.R_keptB (HO_913002.out) hkp (fun k_ hk_ hs_ => (hk_.2) hs_)) (fun k_ hk_ => ⟨hk_.1.1, hk_.1.2⟩)); have n1_ := Aside0.mk (Kd.R_mono (ok' := fun k_ => some k_ ≠ (.slice Ao30 t908.length co30 : Value).ownBlock ∧ some k_ ≠ (.slice Ao47 t924.length co47 : Value).ownBlock) (Kd.R_keptB (HO_919002.out) hkp (fun k_ hk_ hs_ => (hk_.2) hs_)) (fun k_ hk_ => ⟨hk_.1.1, hk_.1.2⟩)); have n2_ := Aside0.mk (Kd.R_reok rfl hy0 (fun k_ e_ => HO_929002.out.1 k_ e_)); have n3_ := Aside0.mk (blk_kept BK896.out hkp (fun hs_ => (fun e_ => (Kd.R_ne HO_929002.out BK896.out (by decide)) e_) hs_)); have n4_ := Aside0.mk (blk_kept BK912.out hkp (fun hs_ => (fun e_ => (Kd.R_ne HO_929002.out BK912.out (by decide)) e_) hs_)); have n5_ := Aside0.mk (blk_kept BK918.out hkp (fun hs_ => (fun e_ => (Kd.R_ne HO_929002.out BK918.out (by decide)) e_) hs_)); have n6_ := Aside0.mk (blk_kept BK928.out hkp (fun hs_ => (fun e_ => (Kd.R_ne HO_929002.out BK928.out (by decide)) e_) hs_)); have n7_ := Aside0.mk (hb); clear HO_913002; clear HO_919002; clear HO_929002; clear BK896; clear BK912; clear BK918; clear BK928; clear HB; have HO_913002 := n0_; have HO_919002 := n1_; have HO_929002 := n2_; have BK896 := n3_; have BK912 := n4_; have BK918 := n5_; have BK928 := n6_; have HB := n7_; clear n0_ n1_ n2_ n3_ n4_ n5_ n6_ n7_; (try clear hb); (try clear hkp); (try clear hy0); have hcz128_0 : w127.cell? ⟨gb928, 0, none⟩ = some (.int .i64 t922) := (blk_cell BK928.out 0).trans rfl; have hcz128_1 : w127.cell? ⟨gb928, 1, none⟩ = some (.int .i64 t923) := (blk_cell BK928.out 1).trans rfl; have hcz128_2 : w127.cell? ⟨gb928, 2, none⟩ = some (.slice Ao47 t924.length co47) := (blk_cell BK928.out 2).trans rfl; have hfz128_0 := blk_frozen BK928.out 0; have hfz128_1 := blk_frozen BK928.out 1; have hfz128_2 := blk_frozen BK928.out 2) | ((with_reducible refine gate_callee (f := 29) rfl ?_); refine goesL_ (some 90) rfl rfl Try.func29 (by kernel_rfl) rfl #[.agg #[.int .i64 t922, .int .i64 t923, .slice Ao47 t946.length co47], .int .i64 1] rfl (by (try simp only [List.map_toArray, List.map_cons, List.map_nil]); first | done | (rw [show t946.length = t924.length from (Kd.R_reads' HO_929002.out).1.symm] <;> rfl) | rfl | (simp only [List.length_drop, List.length_take]; rfl)) ?_; (with_reducible refine (laws_heldField.calls kj74 t922 t923 _ _ t946 1 t947 _ ?side1 ?side2 A109.out).mono ?_); (case side1 => repeat (first | exact (Kd.R_reads' HO_929002.out).2.2 | (with_reducible refine Kd.C_alloc ?_ _) | (with_reducible refine Kd.C_drewN ?_ _) | (with_reducible refine Kd.C_drew ?_))); (case side2 => rw [show t946.length = t924.length from (Kd.R_reads' HO_929002.out).1.symm]; exact (Kd.R_reads' HO_929002.out).2.1); rintro e w129 ⟨rfl, hb⟩; refine ⟨_, rfl, ?_⟩; have n0_ := Aside0.mk (Kd.R_below (by (with_reducible repeat (first | apply Kd.R_alloc | apply Kd.R_drewN | apply Kd.R_drew)); exact HO_913002.out) hb); have n1_ := Aside0.mk (Kd.R_below (by (with_reducible repeat (first | apply Kd.R_alloc | apply Kd.R_drewN | apply Kd.R_drew)); exact HO_919002.out) hb); have n2_ := Aside0.mk (Kd.R_below (by (with_reducible repeat (first | apply Kd.R_alloc | apply Kd.R_drewN | apply Kd.R_drew)); exact HO_929002.out) hb); have n3_ := Aside0.mk (blk_below (g := gb896) (o := .cells #[.int .i64 a0_0, .int .i64 a0_1, .slice A0_2 l0_2.length c0_2] 36 (0, 0)) BK896.out hb); have n4_ := Aside0.mk (blk_below (g := gb912) (o := .cells #[.int .i64 t906, .int .i64 t907, .slice Ao30 t908.length co30] 26 (0, 0)) BK912.out hb); have n5_ := Aside0.mk (blk_below (g := gb918) (o := .cells #[.int .i64 t913, .int .i64 t914, .slice Ao37 t941.length co37] 26 (0, 0)) BK918.out hb); have n6_ := Aside0.mk (blk_below (g := gb928) (o := .cells #[.int .i64 t922, .int .i64 t923, .slice Ao47 t924.length co47] 26 (0, 0)) BK928.out hb); have n7_ := Aside0.mk (below_step (by repeat (first | (with_reducible first | exact HB.out | apply below_alloc | apply pw_below_drewN | apply below_drew1 | refine below_set ?_ GE896.out | refine below_set ?_ GE912.out | refine below_set ?_ GE918.out | refine below_set ?_ GE928.out) | exact HB.out)) hb); clear HO_913002; clear HO_919002; clear HO_929002; clear BK896; clear BK912; clear BK918; clear BK928; clear HB; have HO_913002 := n0_; have HO_919002 := n1_; have HO_929002 := n2_; have BK896 := n3_; have BK912 := n4_; have BK918 := n5_; have BK928 := n6_; have HB := n7_; clear n0_ n1_ n2_ n3_ n4_ n5_ n6_ n7_; (try clear hb); (try clear hb2); (try clear hk); (try clear hi); have hnb130 := NB896_912.out; have hnc130 := NB912_896.out; have hnb131 := NB896_918.out; have hnc131 := NB918_896.out; have hcz132_0 : w129.cell? ⟨gb896, 0, none⟩ = some (.int .i64 a0_0) := (blk_cell BK896.out 0).trans rfl; have hcz132_1 : w129.cell? ⟨gb896, 1, none⟩ = some (.int .i64 a0_1) := (blk_cell BK896.out 1).trans rfl; have hcz132_2 : w129.cell? ⟨gb896, 2, none⟩ = some (.slice A0_2 l0_2.length c0_2) := (blk_cell BK896.out 2).trans rfl; have hfz132_0 := blk_frozen BK896.out 0; have hfz132_1 := blk_frozen BK896.out 1; have hfz132_2 := blk_frozen BK896.out 2) | ((with_reducible refine gate_callee (f := 22) rfl ?_); refine goesL_ (some 98) rfl rfl Try.func22 (by kernel_rfl) rfl #[.agg #[.int .i64 a0_0, .int .i64 a0_1, .slice A0_2 l0_2.length c0_2]] rfl (by (try simp only [List.map_toArray, List.map_cons, List.map_nil]); first | done | rfl | (simp only [List.length_drop, List.length_take]; rfl)) ?_; (with_reducible refine (laws_toField.calls kj74 a0_0 a0_1 _ _ l0_2 t948 t949 t950 _ ?side1 ?side2 A119.out).mono ?_); (case side1 => repeat (first | exact (Kd.C_below HR0_2.out HB.out) | (with_reducible refine Kd.C_alloc ?_ _) | (with_reducible refine Kd.C_drewN ?_ _) | (with_reducible refine Kd.C_drew ?_))); (case side2 => exact HC0_2.out); rintro e w133 ⟨v951, rfl, ho0, hb⟩; refine ⟨_, rfl, ?_⟩; have n0_ := Aside0.mk (Kd.R_elder' (by (with_reducible repeat (first | apply Kd.R_alloc | apply Kd.R_drewN | apply Kd.R_drew)); exact HO_913002.out) (Kd.R_base ho0) hb); have n1_ := Aside0.mk (Kd.R_elder' (by (with_reducible repeat (first | apply Kd.R_alloc | apply Kd.R_drewN | apply Kd.R_drew)); exact HO_919002.out) (Kd.R_base ho0) hb); have n2_ := Aside0.mk (Kd.R_elder' (by (with_reducible repeat (first | apply Kd.R_alloc | apply Kd.R_drewN | apply Kd.R_drew)); exact HO_929002.out) (Kd.R_base ho0) hb); have n3_ := Aside0.mk (Kd.R_lower (Kd.R_new' (Kd.R_new' (Kd.R_new' ho0 (Kd.R_lt (by (with_reducible repeat (first | apply Kd.R_alloc | apply Kd.R_drewN | apply Kd.R_drew)); exact HO_913002.out))) (Kd.R_lt (by (with_reducible repeat (first | apply Kd.R_alloc | apply Kd.R_drewN | apply Kd.R_drew)); exact HO_919002.out))) (Kd.R_lt (by (with_reducible repeat (first | apply Kd.R_alloc | apply Kd.R_drewN | apply Kd.R_drew)); exact HO_929002.out))) (below_size (by repeat (first | (with_reducible first | exact HB.out | apply below_alloc | apply pw_below_drewN | apply below_drew1 | refine below_set ?_ GE896.out | refine below_set ?_ GE912.out | refine below_set ?_ GE918.out | refine below_set ?_ GE928.out) | exact HB.out)))); have n4_ := Aside0.mk (blk_below (g := gb896) (o := .cells #[.int .i64 a0_0, .int .i64 a0_1, .slice A0_2 l0_2.length c0_2] 36 (0, 0)) BK896.out hb); have n5_ := Aside0.mk (blk_below (g := gb912) (o := .cells #[.int .i64 t906, .int .i64 t907, .slice Ao30 t908.length co30] 26 (0, 0)) BK912.out hb); have n6_ := Aside0.mk (blk_below (g := gb918) (o := .cells #[.int .i64 t913, .int .i64 t914, .slice Ao37 t941.length co37] 26 (0, 0)) BK918.out hb); have n7_ := Aside0.mk (blk_below (g := gb928) (o := .cells #[.int .i64 t922, .int .i64 t923, .slice Ao47 t924.length co47] 26 (0, 0)) BK928.out hb); have n8_ := Aside0.mk (below_step (by repeat (first | (with_reducible first | exact HB.out | apply below_alloc | apply pw_below_drewN | apply below_drew1 | refine below_set ?_ GE896.out | refine below_set ?_ GE912.out | refine below_set ?_ GE918.out | refine below_set ?_ GE928.out) | exact HB.out)) hb); clear HO_913002; clear HO_919002; clear HO_929002; clear BK896; clear BK912; clear BK918; clear BK928; clear HB; have HO_913002 := n0_; have HO_919002 := n1_; have HO_929002 := n2_; have HO952 := n3_; have BK896 := n4_; have BK912 := n5_; have BK918 := n6_; have BK928 := n7_; have HB := n8_; clear n0_ n1_ n2_ n3_ n4_ n5_ n6_ n7_ n8_; (try clear hb); (try clear hb2); (try clear hk); (try clear hi); (try clear ho0)) | ((with_reducible refine gate_callee (f := 23) rfl ?_); refine goesL_ (some 100) rfl rfl Try.func23 (by kernel_rfl) rfl #[.slice A1 l1.length c1] rfl (by (try simp only [List.map_toArray, List.map_cons, List.map_nil]); first | done | rfl | (simp only [List.length_drop, List.length_take]; rfl)) ?_; (with_reducible refine (laws_toIntS.calls kj74 _ _ l1 t953 _ ?side1 ?side2 A120.out).mono ?_); (case side1 => repeat (first | exact (Kd.C_below HR1.out HB.out) | (with_reducible refine Kd.C_alloc ?_ _) | (with_reducible refine Kd.C_drewN ?_ _) | (with_reducible refine Kd.C_drew ?_))); (case side2 => exact HC1.out); rintro e w134 ⟨v954, rfl, ho0, hb⟩; refine ⟨_, rfl, ?_⟩; have n0_ := Aside0.mk (Kd.R_elder' (by (with_reducible repeat (first | apply Kd.R_alloc | apply Kd.R_drewN | apply Kd.R_drew)); exact HO_913002.out) (Kd.R_base ho0) hb); have n1_ := Aside0.mk (Kd.R_elder' (by (with_reducible repeat (first | apply Kd.R_alloc | apply Kd.R_drewN | apply Kd.R_drew)); exact HO_919002.out) (Kd.R_base ho0) hb); have n2_ := Aside0.mk (Kd.R_elder' (by (with_reducible repeat (first | apply Kd.R_alloc | apply Kd.R_drewN | apply Kd.R_drew)); exact HO_929002.out) (Kd.R_base ho0) hb); have n3_ := Aside0.mk (Kd.R_elder' (by (with_reducible repeat (first | apply Kd.R_alloc | apply Kd.R_drewN | apply Kd.R_drew)); exact HO952.out) (Kd.R_base ho0) hb); have n4_ := Aside0.mk (Kd.R_lower (Kd.R_new' (Kd.R_new' (Kd.R_new' (Kd.R_new' ho0 (Kd.R_lt (by (with_reducible repeat (first | apply Kd.R_alloc | apply Kd.R_drewN | apply Kd.R_drew)); exact HO_913002.out))) (Kd.R_lt (by (with_reducible repeat (first | apply Kd.R_alloc | apply Kd.R_drewN | apply Kd.R_drew)); exact HO_919002.out))) (Kd.R_lt (by (with_reducible repeat (first | apply Kd.R_alloc | apply Kd.R_drewN | apply Kd.R_drew)); exact HO_929002.out))) (Kd.R_lt (by (with_reducible repeat (first | apply Kd.R_alloc | apply Kd.R_drewN | apply Kd.R_drew)); exact HO952.out))) (below_size (by repeat (first | (with_reducible first | exact HB.out | apply below_alloc | apply pw_below_drewN | apply below_drew1 | refine below_set ?_ GE896.out | refine below_set ?_ GE912.out | refine below_set ?_ GE918.out | refine below_set ?_ GE928.out) | exact HB.out)))); have n5_ := Aside0.mk (blk_below (g := gb896) (o := .cells #[.int .i64 a0_0, .int .i64 a0_1, .slice A0_2 l0_2.length c0_2] 36 (0, 0)) BK896.out hb); have n6_ := Aside0.mk (blk_below (g := gb912) (o := .cells #[.int .i64 t906, .int .i64 t907, .slice Ao30 t908.length co30] 26 (0, 0)) BK912.out hb); have n7_ := Aside0.mk (blk_below (g := gb918) (o := .cells #[.int .i64 t913, .int .i64 t914, .slice Ao37 t941.length co37] 26 (0, 0)) BK918.out hb); have n8_ := Aside0.mk (blk_below (g := gb928) (o := .cells #[.int .i64 t922, .int .i64 t923, .slice Ao47 t924.length co47] 26 (0, 0)) BK928.out hb); have n9_ := Aside0.mk (below_step (by repeat (first | (with_reducible first | exact HB.out | apply below_alloc | apply pw_below_drewN | apply below_drew1 | refine below_set ?_ GE896.out | refine below_set ?_ GE912.out | refine below_set ?_ GE918.out | refine below_set ?_ GE928.out) | exact HB.out)) hb); clear HO_913002; clear HO_919002; clear HO_929002; clear HO952; clear BK896; clear BK912; clear BK918; clear BK928; clear HB; have HO_913002 := n0_; have HO_919002 := n1_; have HO_929002 := n2_; have HO952 := n3_; have HO955 := n4_; have BK896 := n5_; have BK912 := n6_; have BK918 := n7_; have BK928 := n8_; have HB := n9_; clear n0_ n1_ n2_ n3_ n4_ n5_ n6_ n7_ n8_ n9_; (try clear hb); (try clear hb2); (try clear hk); (try clear hi); (try clear ho0); obtain ⟨Ao135, co135, eo135⟩ := Kd.R_slice HO952.out; subst eo135; obtain ⟨Ao136, co136, eo136⟩ := Kd.R_slice HO955.out; subst eo136) | ((with_reducible refine gate_callee (f := 33) rfl ?_); refine goesL_ (some 102) rfl rfl Try.func33 (by kernel_rfl) rfl #[.agg #[.int .i64 t948, .int .i64 t949, .slice Ao135 t950.length co135], .slice Ao136 t953.length co136, .int .i64 a2] rfl (by (try simp only [List.map_toArray, List.map_cons, List.map_nil]); first | done | rfl | (simp only [List.length_drop, List.length_take]; rfl)) ?_; (with_reducible refine (impl_AddToRegion.calls kj74 t948 t949 _ _ t950 _ _ t953 a2 t956 t957 t958 t961 _ ?side1 ?side2 ?side3 ?side4 A121.out).mono ?_); (case side1 => repeat (first | exact (Kd.R_reads' HO952.out).2.2 | (with_reducible refine Kd.C_alloc ?_ _) | (with_reducible refine Kd.C_drewN ?_ _) | (with_reducible refine Kd.C_drew ?_))); (case side2 => exact (Kd.R_reads' HO952.out).2.1); (case side3 => repeat (first | exact (Kd.R_reads' HO955.out).2.2 | (with_reducible refine Kd.C_alloc ?_ _) | (with_reducible refine Kd.C_drewN ?_ _) | (with_reducible refine Kd.C_drew ?_))); (case side4 => exact (Kd.R_reads' HO955.out).2.1); rintro e w137 ⟨v959, rfl, ho0, hb⟩; refine ⟨_, rfl, ?_⟩; have n0_ := Aside0.mk (Kd.R_elder' (by (with_reducible repeat (first | apply Kd.R_alloc | apply Kd.R_drewN | apply Kd.R_drew)); exact HO_913002.out) (Kd.R_base ho0) hb); have n1_ := Aside0.mk (Kd.R_elder' (by (with_reducible repeat (first | apply Kd.R_alloc | apply Kd.R_drewN | apply Kd.R_drew)); exact HO_919002.out) (Kd.R_base ho0) hb); have n2_ := Aside0.mk (Kd.R_elder' (by (with_reducible repeat (first | apply Kd.R_alloc | apply Kd.R_drewN | apply Kd.R_drew)); exact HO_929002.out) (Kd.R_base ho0) hb); have n3_ := Aside0.mk (Kd.R_elder' (by (with_reducible repeat (first | apply Kd.R_alloc | apply Kd.R_drewN | apply Kd.R_drew)); exact HO952.out) (Kd.R_base ho0) hb); have n4_ := Aside0.mk (Kd.R_elder' (by (with_reducible repeat (first | apply Kd.R_alloc | apply Kd.R_drewN | apply Kd.R_drew)); exact HO955.out) (Kd.R_base ho0) hb); have n5_ := Aside0.mk (Kd.R_lower (Kd.R_new' (Kd.R_new' (Kd.R_new' (Kd.R_new' (Kd.R_new' ho0 (Kd.R_lt (by (with_reducible repeat (first | apply Kd.R_alloc | apply Kd.R_drewN | apply Kd.R_drew)); exact HO_913002.out))) (Kd.R_lt (by (with_reducible repeat (first | apply Kd.R_alloc | apply Kd.R_drewN | apply Kd.R_drew)); exact HO_919002.out))) (Kd.R_lt (by (with_reducible repeat (first | apply Kd.R_alloc | apply Kd.R_drewN | apply Kd.R_drew)); exact HO_929002.out))) (Kd.R_lt (by (with_reducible repeat (first | apply Kd.R_alloc | apply Kd.R_drewN | apply Kd.R_drew)); exact HO952.out))) (Kd.R_lt (by (with_reducible repeat (first | apply Kd.R_alloc | apply Kd.R_drewN | apply Kd.R_drew)); exact HO955.out))) (below_size (by repeat (first | (with_reducible first | exact HB.out | apply below_alloc | apply pw_below_drewN | apply below_drew1 | refine below_set ?_ GE896.out | refine below_set ?_ GE912.out | refine below_set ?_ GE918.out | refine below_set ?_ GE928.out) | exact HB.out)))); have n6_ := Aside0.mk (blk_below (g := gb896) (o := .cells #[.int .i64 a0_0, .int .i64 a0_1, .slice A0_2 l0_2.length c0_2] 36 (0, 0)) BK896.out hb); have n7_ := Aside0.mk (blk_below (g := gb912) (o := .cells #[.int .i64 t906, .int .i64 t907, .slice Ao30 t908.length co30] 26 (0, 0)) BK912.out hb); have n8_ := Aside0.mk (blk_below (g := gb918) (o := .cells #[.int .i64 t913, .int .i64 t914, .slice Ao37 t941.length co37] 26 (0, 0)) BK918.out hb); have n9_ := Aside0.mk (blk_below (g := gb928) (o := .cells #[.int .i64 t922, .int .i64 t923, .slice Ao47 t924.length co47] 26 (0, 0)) BK928.out hb); have n10_ := Aside0.mk (below_step (by repeat (first | (with_reducible first | exact HB.out | apply below_alloc | apply pw_below_drewN | apply below_drew1 | refine below_set ?_ GE896.out | refine below_set ?_ GE912.out | refine below_set ?_ GE918.out | refine below_set ?_ GE928.out) | exact HB.out)) hb); clear HO_913002; clear HO_919002; clear HO_929002; clear HO952; clear HO955; clear BK896; clear BK912; clear BK918; clear BK928; clear HB; have HO_913002 := n0_; have HO_919002 := n1_; have HO_929002 := n2_; have HO952 := n3_; have HO955 := n4_; have HO960 := n5_; have BK896 := n6_; have BK912 := n7_; have BK918 := n8_; have BK928 := n9_; have HB := n10_; clear n0_ n1_ n2_ n3_ n4_ n5_ n6_ n7_ n8_ n9_ n10_; (try clear hb); (try clear hb2); (try clear hk); (try clear hi); (try clear ho0)) | ((with_reducible refine gate_dst (N := 17) rfl ?_); refine box_event ?hg (N := 17) ?hd (cs := #[.int .i64 0, .int .i64 0, .slice none 0 0]) (t := 26) ?hr ?_; (case hd => rfl); (case hg => rfl); (case hr => first | (go_simp; done) | (go_simp; rfl)); intro gb962 hg w138 hbox hb; have n0_ := Aside0.mk (Kd.R_below (by (with_reducible repeat (first | apply Kd.R_alloc | apply Kd.R_drewN | apply Kd.R_drew)); exact HO_913002.out) hb); have n1_ := Aside0.mk (Kd.R_below (by (with_reducible repeat (first | apply Kd.R_alloc | apply Kd.R_drewN | apply Kd.R_drew)); exact HO_919002.out) hb); have n2_ := Aside0.mk (Kd.R_below (by (with_reducible repeat (first | apply Kd.R_alloc | apply Kd.R_drewN | apply Kd.R_drew)); exact HO_929002.out) hb); have n3_ := Aside0.mk (Kd.R_below (by (with_reducible repeat (first | apply Kd.R_alloc | apply Kd.R_drewN | apply Kd.R_drew)); exact HO952.out) hb); have n4_ := Aside0.mk (Kd.R_below (by (with_reducible repeat (first | apply Kd.R_alloc | apply Kd.R_drewN | apply Kd.R_drew)); exact HO955.out) hb); have n5_ := Aside0.mk (Kd.R_below (by (with_reducible repeat (first | apply Kd.R_alloc | apply Kd.R_drewN | apply Kd.R_drew)); exact HO960.out) hb); have n6_ := Aside0.mk (blk_below (g := gb896) (o := .cells #[.int .i64 a0_0, .int .i64 a0_1, .slice A0_2 l0_2.length c0_2] 36 (0, 0)) BK896.out hb); have n7_ := Aside0.mk (blk_below (g := gb912) (o := .cells #[.int .i64 t906, .int .i64 t907, .slice Ao30 t908.length co30] 26 (0, 0)) BK912.out hb); have n8_ := Aside0.mk (blk_below (g := gb918) (o := .cells #[.int .i64 t913, .int .i64 t914, .slice Ao37 t941.length co37] 26 (0, 0)) BK918.out hb); have n9_ := Aside0.mk (blk_below (g := gb928) (o := .cells #[.int .i64 t922, .int .i64 t923, .slice Ao47 t924.length co47] 26 (0, 0)) BK928.out hb); have n10_ := Aside0.mk (below_step (by repeat (first | (with_reducible first | exact HB.out | apply below_alloc | apply pw_below_drewN | apply below_drew1 | refine below_set ?_ GE896.out | refine below_set ?_ GE912.out | refine below_set ?_ GE918.out | refine below_set ?_ GE928.out) | exact HB.out)) hb); have n11_ := Aside0.mk (hbox); have n12_ := Aside0.mk ((by rw [hg]; exact (below_size (by repeat (first | (with_reducible first | exact HB.out | apply below_alloc | apply pw_below_drewN | apply below_drew1 | refine below_set ?_ GE896.out | refine below_set ?_ GE912.out | refine below_set ?_ GE918.out | refine below_set ?_ GE928.out) | exact HB.out))) : w.heap.size ≤ gb962)); have n13_ := Aside0.mk ((by rw [hg]; exact (below_size (by repeat (first | (with_reducible first | exact HB.out | apply below_alloc | apply pw_below_drewN | apply below_drew1 | refine below_set ?_ GE896.out | refine below_set ?_ GE912.out | refine below_set ?_ GE918.out | refine below_set ?_ GE928.out) | exact HB.out))) : w.heap.size ≤ gb962)); have n14_ := Aside0.mk ((by rw [hg]; exact Nat.ne_of_lt (blk_lt (g := gb896) (o := .cells #[.int .i64 a0_0, .int .i64 a0_1, .slice A0_2 l0_2.length c0_2] 36 (0, 0)) BK896.out) : gb896 ≠ gb962)); have n15_ := Aside0.mk ((by rw [hg]; exact Nat.ne_of_gt (blk_lt (g := gb896) (o := .cells #[.int .i64 a0_0, .int .i64 a0_1, .slice A0_2 l0_2.length c0_2] 36 (0, 0)) BK896.out) : gb962 ≠ gb896)); have n16_ := Aside0.mk ((by rw [hg]; exact Nat.ne_of_lt (blk_lt (g := gb912) (o := .cells #[.int .i64 t906, .int .i64 t907, .slice Ao30 t908.length co30] 26 (0, 0)) BK912.out) : gb912 ≠ gb962)); have n17_ := Aside0.mk ((by rw [hg]; exact Nat.ne_of_gt (blk_lt (g := gb912) (o := .cells #[.int .i64 t906, .int .i64 t907, .slice Ao30 t908.length co30] 26 (0, 0)) BK912.out) : gb962 ≠ gb912)); have n18_ := Aside0.mk ((by rw [hg]; exact Nat.ne_of_lt (blk_lt (g := gb918) (o := .cells #[.int .i64 t913, .int .i64 t914, .slice Ao37 t941.length co37] 26 (0, 0)) BK918.out) : gb918 ≠ gb962)); have n19_ := Aside0.mk ((by rw [hg]; exact Nat.ne_of_gt (blk_lt (g := gb918) (o := .cells #[.int .i64 t913, .int .i64 t914, .slice Ao37 t941.length co37] 26 (0, 0)) BK918.out) : gb962 ≠ gb918)); have n20_ := Aside0.mk ((by rw [hg]; exact Nat.ne_of_lt (blk_lt (g := gb928) (o := .cells #[.int .i64 t922, .int .i64 t923, .slice Ao47 t924.length co47] 26 (0, 0)) BK928.out) : gb928 ≠ gb962)); have n21_ := Aside0.mk ((by rw [hg]; exact Nat.ne_of_gt (blk_lt (g := gb928) (o := .cells #[.int .i64 t922, .int .i64 t923, .slice Ao47 t924.length co47] 26 (0, 0)) BK928.out) : gb962 ≠ gb928)); clear HO_913002; clear HO_919002; clear HO_929002; clear HO952; clear HO955; clear HO960; clear BK896; clear BK912; clear BK918; clear BK928; clear HB; have HO_913002 := n0_; have HO_919002 := n1_; have HO_929002 := n2_; have HO952 := n3_; have HO955 := n4_; have HO960 := n5_; have BK896 := n6_; have BK912 := n7_; have BK918 := n8_; have BK928 := n9_; have HB := n10_; have BK962 := n11_; have GW962 := n12_; have GE962 := n13_; have NB896_962 := n14_; have NB962_896 := n15_; have NB912_962 := n16_; have NB962_912 := n17_; have NB918_962 := n18_; have NB962_918 := n19_; have NB928_962 := n20_; have NB962_928 := n21_; clear n0_ n1_ n2_ n3_ n4_ n5_ n6_ n7_ n8_ n9_ n10_ n11_ n12_ n13_ n14_ n15_ n16_ n17_ n18_ n19_ n20_ n21_; clear hb hbox hg; have hnb139 := NB962_896.out; have hnc139 := NB896_962.out; have hnb140 := NB962_912.out; have hnc140 := NB912_962.out; have hnb141 := NB962_918.out; have hnc141 := NB918_962.out; have hnb142 := NB962_928.out; have hnc142 := NB928_962.out; have hcz143_0 : w138.cell? ⟨gb962, 0, none⟩ = some (.int .i64 0) := (blk_cell BK962.out 0).trans rfl; have hcz143_1 : w138.cell? ⟨gb962, 1, none⟩ = some (.int .i64 0) := (blk_cell BK962.out 1).trans rfl; have hcz143_2 : w138.cell? ⟨gb962, 2, none⟩ = some (.slice none 0 0) := (blk_cell BK962.out 2).trans rfl; have hfz143_0 := blk_frozen BK962.out 0; have hfz143_1 := blk_frozen BK962.out 1; have hfz143_2 := blk_frozen BK962.out 2; obtain ⟨Ao144, co144, eo144⟩ := Kd.R_slice HO960.out; subst eo144))
                              (try simp only [Act.put, List.setIfInBounds_toArray, List.set_cons_zero, List.set_cons_succ])
                              go_cut [113] (fun v113 wc => ∃ (kq : Nat) (x113_121 : Bool), v113 = .bool x113_121 ∧ Aside0 (laws_FnExactAddToRegion.j2 kq t945 x113_121 t922 t923 t946 = some r) ∧ Aside0 (kq ≤ kj74) ∧ Aside0 (Kd.R (Kd.int .i64) 3 wc w.heap.size (fun k_ => some k_ ≠ ((.slice Ao37 t941.length co37) : Value).ownBlock ∧ some k_ ≠ ((.slice Ao47 t924.length co47) : Value).ownBlock ∧ some k_ ≠ ((.slice Ao144 t958.length co144) : Value).ownBlock) (.slice Ao30 t908.length co30) t908) ∧ Aside0 (Kd.R (Kd.int .i64) 3 wc w.heap.size (fun k_ => some k_ ≠ ((.slice Ao30 t908.length co30) : Value).ownBlock ∧ some k_ ≠ ((.slice Ao47 t924.length co47) : Value).ownBlock ∧ some k_ ≠ ((.slice Ao144 t958.length co144) : Value).ownBlock) (.slice Ao37 t941.length co37) t941) ∧ Aside0 (Kd.R (Kd.int .i64) 3 wc w.heap.size (fun k_ => some k_ ≠ ((.slice Ao30 t908.length co30) : Value).ownBlock ∧ some k_ ≠ ((.slice Ao37 t941.length co37) : Value).ownBlock ∧ some k_ ≠ ((.slice Ao144 t958.length co144) : Value).ownBlock) (.slice Ao47 t924.length co47) t946) ∧ Aside0 (Kd.R (Kd.int .i64) 3 wc w.heap.size (fun k_ => some k_ ≠ ((.slice Ao30 t908.length co30) : Value).ownBlock ∧ some k_ ≠ ((.slice Ao37 t941.length co37) : Value).ownBlock ∧ some k_ ≠ ((.slice Ao47 t924.length co47) : Value).ownBlock) (.slice Ao144 t958.length co144) t958) ∧ Aside0 (wc.heap[gb896]? = some (.cells #[.int .i64 a0_0, .int .i64 a0_1, (.slice A0_2 l0_2.length c0_2)] 36 (0, 0))) ∧ Aside0 (wc.heap[gb912]? = some (.cells #[.int .i64 t906, .int .i64 t907, (.slice Ao30 t908.length co30)] 26 (0, 0))) ∧ Aside0 (wc.heap[gb918]? = some (.cells #[.int .i64 t913, .int .i64 t914, (.slice Ao37 t941.length co37)] 26 (0, 0))) ∧ Aside0 (wc.heap[gb928]? = some (.cells #[.int .i64 t922, .int .i64 t923, (.slice Ao47 t924.length co47)] 26 (0, 0))) ∧ Aside0 (wc.heap[gb962]? = some (.cells #[.int .i64 t956, .int .i64 t957, (.slice Ao144 t958.length co144)] 26 (0, 0))) ∧ Aside0 (Below w.heap.size w wc))
                              case first =>
                                as_aux_lemma =>
                                  have H := HC122.out
                                  clear HC122
                                  replace H := Option.bind_eq_some_iff.mp H
                                  obtain ⟨t963, A1450, H⟩ := H
                                  replace H : (if t963 = true then (laws_FnExactAddToRegion.j2 kj74 t945 (t961 != t911) t922 t923 t946) else (laws_FnExactAddToRegion.j2 kj74 t945 true t922 t923 t946)) = some r := H
                                  have A145 := Aside0.mk A1450
                                  clear A1450
                                  by_cases c146 : t963 = true
                                  · subst c146
                                    have H1 : (laws_FnExactAddToRegion.j2 kj74 t945 (t961 != t911) t922 t923 t946) = some r := by rw [if_pos rfl] at H; exact H
                                    clear H
                                    have H := H1
                                    clear H1
                                    have H' := Aside0.mk H
                                    clear H
                                    have hnb147 := NB962_896.out
                                    have hnc147 := NB896_962.out
                                    have hnb148 := NB962_912.out
                                    have hnc148 := NB912_962.out
                                    have hnb149 := NB962_918.out
                                    have hnc149 := NB918_962.out
                                    have hnb150 := NB962_928.out
                                    have hnc150 := NB928_962.out
                                    have hcz151_0 : w138.cell? ⟨gb962, 0, none⟩ = some (.int .i64 0) := (blk_cell BK962.out 0).trans rfl
                                    have hcz151_1 : w138.cell? ⟨gb962, 1, none⟩ = some (.int .i64 0) := (blk_cell BK962.out 1).trans rfl
                                    have hcz151_2 : w138.cell? ⟨gb962, 2, none⟩ = some (.slice none 0 0) := (blk_cell BK962.out 2).trans rfl
                                    have hfz151_0 := blk_frozen BK962.out 0
                                    have hfz151_1 := blk_frozen BK962.out 1
                                    have hfz151_2 := blk_frozen BK962.out 2
                                    have hnb152 := NB912_896.out
                                    have hnc152 := NB896_912.out
                                    have hnb153 := NB912_918.out
                                    have hnc153 := NB918_912.out
                                    have hnb154 := NB912_928.out
                                    have hnc154 := NB928_912.out
                                    have hcz155_0 : w138.cell? ⟨gb912, 0, none⟩ = some (.int .i64 t906) := (blk_cell BK912.out 0).trans rfl
                                    have hcz155_1 : w138.cell? ⟨gb912, 1, none⟩ = some (.int .i64 t907) := (blk_cell BK912.out 1).trans rfl
                                    have hcz155_2 : w138.cell? ⟨gb912, 2, none⟩ = some (.slice Ao30 t908.length co30) := (blk_cell BK912.out 2).trans rfl
                                    have hfz155_0 := blk_frozen BK912.out 0
                                    have hfz155_1 := blk_frozen BK912.out 1
                                    have hfz155_2 := blk_frozen BK912.out 2
                                    go_wp2_with (first | ((with_reducible refine gate_callee (f := 25) rfl ?_); refine goesL_ (some 107) rfl rfl Try.func25 (by kernel_rfl) rfl #[.agg #[.int .i64 t956, .int .i64 t957, .slice Ao144 t958.length co144], .agg #[.int .i64 t906, .int .i64 t907, .slice Ao30 t908.length co30]] rfl (by (try simp only [List.map_toArray, List.map_cons, List.map_nil]); first | done | rfl | (simp only [List.length_drop, List.length_take]; rfl)) ?_; (with_reducible refine (laws_eqField.calls kj74 t956 t957 _ _ t958 t906 t907 _ _ t908 true _ ?side1 ?side2 ?side3 ?side4 A145.out).mono ?_); (case side1 => refine (Kd.R_reads' (e := 3) (base := w.heap.size) (ok := fun k_ => (((((True ∧ some k_ ≠ (.slice Ao30 t908.length co30 : Value).ownBlock) ∧ some k_ ≠ (.slice Ao37 t941.length co37 : Value).ownBlock) ∧ some k_ ≠ (.slice Ao47 t924.length co47 : Value).ownBlock) ∧ some k_ ≠ (.slice Ao135 t950.length co135 : Value).ownBlock) ∧ some k_ ≠ (.slice Ao136 t953.length co136 : Value).ownBlock)) (n := t958.length) (c := co144) ?_).2.2; exact (by (with_reducible repeat (first | apply Kd.R_alloc | apply Kd.R_drewN | apply Kd.R_drew)); exact (Kd.R_mono (Kd.R_far (p := ⟨gb962, 2, none⟩) (Kd.R_far (p := ⟨gb962, 1, none⟩) (Kd.R_far (p := ⟨gb962, 0, none⟩) (Kd.R_types HO960.out BK962.out (by decide)) (fun _ hk => hk.2) (.int .i64 t956)) (fun _ hk => hk.2) (.int .i64 t957)) (fun _ hk => hk.2) (.slice Ao144 t958.length co144)) (fun _ h_ => h_.1)))); (case side2 => exact (Kd.R_reads' HO960.out).2.1); (case side3 => refine (Kd.R_reads' (e := 3) (base := w.heap.size) (ok := fun k_ => ((((some k_ ≠ (.slice Ao37 t941.length co37 : Value).ownBlock ∧ some k_ ≠ (.slice Ao47 t924.length co47 : Value).ownBlock) ∧ some k_ ≠ (.slice Ao135 t950.length co135 : Value).ownBlock) ∧ some k_ ≠ (.slice Ao136 t953.length co136 : Value).ownBlock) ∧ some k_ ≠ (.slice Ao144 t958.length co144 : Value).ownBlock)) (n := t908.length) (c := co30) ?_).2.2; exact (by (with_reducible repeat (first | apply Kd.R_alloc | apply Kd.R_drewN | apply Kd.R_drew)); exact (Kd.R_mono (Kd.R_far (p := ⟨gb962, 2, none⟩) (Kd.R_far (p := ⟨gb962, 1, none⟩) (Kd.R_far (p := ⟨gb962, 0, none⟩) (Kd.R_types HO_913002.out BK962.out (by decide)) (fun _ hk => hk.2) (.int .i64 t956)) (fun _ hk => hk.2) (.int .i64 t957)) (fun _ hk => hk.2) (.slice Ao144 t958.length co144)) (fun _ h_ => h_.1)))); (case side4 => exact (Kd.R_reads' HO_913002.out).2.1); rintro e w156 ⟨rfl, hb⟩; refine ⟨_, rfl, ?_⟩; have n0_ := Aside0.mk (Kd.R_below (by (with_reducible repeat (first | apply Kd.R_alloc | apply Kd.R_drewN | apply Kd.R_drew)); exact (Kd.R_mono (Kd.R_far (p := ⟨gb962, 2, none⟩) (Kd.R_far (p := ⟨gb962, 1, none⟩) (Kd.R_far (p := ⟨gb962, 0, none⟩) (Kd.R_types HO_913002.out BK962.out (by decide)) (fun _ hk => hk.2) (.int .i64 t956)) (fun _ hk => hk.2) (.int .i64 t957)) (fun _ hk => hk.2) (.slice Ao144 t958.length co144)) (fun _ h_ => h_.1))) hb); have n1_ := Aside0.mk (Kd.R_below (by (with_reducible repeat (first | apply Kd.R_alloc | apply Kd.R_drewN | apply Kd.R_drew)); exact (Kd.R_mono (Kd.R_far (p := ⟨gb962, 2, none⟩) (Kd.R_far (p := ⟨gb962, 1, none⟩) (Kd.R_far (p := ⟨gb962, 0, none⟩) (Kd.R_types HO_919002.out BK962.out (by decide)) (fun _ hk => hk.2) (.int .i64 t956)) (fun _ hk => hk.2) (.int .i64 t957)) (fun _ hk => hk.2) (.slice Ao144 t958.length co144)) (fun _ h_ => h_.1))) hb); have n2_ := Aside0.mk (Kd.R_below (by (with_reducible repeat (first | apply Kd.R_alloc | apply Kd.R_drewN | apply Kd.R_drew)); exact (Kd.R_mono (Kd.R_far (p := ⟨gb962, 2, none⟩) (Kd.R_far (p := ⟨gb962, 1, none⟩) (Kd.R_far (p := ⟨gb962, 0, none⟩) (Kd.R_types HO_929002.out BK962.out (by decide)) (fun _ hk => hk.2) (.int .i64 t956)) (fun _ hk => hk.2) (.int .i64 t957)) (fun _ hk => hk.2) (.slice Ao144 t958.length co144)) (fun _ h_ => h_.1))) hb); have n3_ := Aside0.mk (Kd.R_below (by (with_reducible repeat (first | apply Kd.R_alloc | apply Kd.R_drewN | apply Kd.R_drew)); exact (Kd.R_mono (Kd.R_far (p := ⟨gb962, 2, none⟩) (Kd.R_far (p := ⟨gb962, 1, none⟩) (Kd.R_far (p := ⟨gb962, 0, none⟩) (Kd.R_types HO952.out BK962.out (by decide)) (fun _ hk => hk.2) (.int .i64 t956)) (fun _ hk => hk.2) (.int .i64 t957)) (fun _ hk => hk.2) (.slice Ao144 t958.length co144)) (fun _ h_ => h_.1))) hb); have n4_ := Aside0.mk (Kd.R_below (by (with_reducible repeat (first | apply Kd.R_alloc | apply Kd.R_drewN | apply Kd.R_drew)); exact (Kd.R_mono (Kd.R_far (p := ⟨gb962, 2, none⟩) (Kd.R_far (p := ⟨gb962, 1, none⟩) (Kd.R_far (p := ⟨gb962, 0, none⟩) (Kd.R_types HO955.out BK962.out (by decide)) (fun _ hk => hk.2) (.int .i64 t956)) (fun _ hk => hk.2) (.int .i64 t957)) (fun _ hk => hk.2) (.slice Ao144 t958.length co144)) (fun _ h_ => h_.1))) hb); have n5_ := Aside0.mk (Kd.R_below (by (with_reducible repeat (first | apply Kd.R_alloc | apply Kd.R_drewN | apply Kd.R_drew)); exact (Kd.R_mono (Kd.R_far (p := ⟨gb962, 2, none⟩) (Kd.R_far (p := ⟨gb962, 1, none⟩) (Kd.R_far (p := ⟨gb962, 0, none⟩) (Kd.R_types HO960.out BK962.out (by decide)) (fun _ hk => hk.2) (.int .i64 t956)) (fun _ hk => hk.2) (.int .i64 t957)) (fun _ hk => hk.2) (.slice Ao144 t958.length co144)) (fun _ h_ => h_.1))) hb); have n6_ := Aside0.mk (blk_below (g := gb896) (o := .cells #[.int .i64 a0_0, .int .i64 a0_1, .slice A0_2 l0_2.length c0_2] 36 (0, 0)) (by (with_reducible repeat (first | refine blk_drewN ?_ _ | refine blk_drew ?_ | refine blk_alloc ?_ _)); refine blk_far ?_ NB896_962.out _; (with_reducible repeat (first | refine blk_drewN ?_ _ | refine blk_drew ?_ | refine blk_alloc ?_ _)); refine blk_far ?_ NB896_962.out _; (with_reducible repeat (first | refine blk_drewN ?_ _ | refine blk_drew ?_ | refine blk_alloc ?_ _)); refine blk_far ?_ NB896_962.out _; (with_reducible repeat (first | refine blk_drewN ?_ _ | refine blk_drew ?_ | refine blk_alloc ?_ _)); exact BK896.out) hb); have n7_ := Aside0.mk (blk_below (g := gb912) (o := .cells #[.int .i64 t906, .int .i64 t907, .slice Ao30 t908.length co30] 26 (0, 0)) (by (with_reducible repeat (first | refine blk_drewN ?_ _ | refine blk_drew ?_ | refine blk_alloc ?_ _)); refine blk_far ?_ NB912_962.out _; (with_reducible repeat (first | refine blk_drewN ?_ _ | refine blk_drew ?_ | refine blk_alloc ?_ _)); refine blk_far ?_ NB912_962.out _; (with_reducible repeat (first | refine blk_drewN ?_ _ | refine blk_drew ?_ | refine blk_alloc ?_ _)); refine blk_far ?_ NB912_962.out _; (with_reducible repeat (first | refine blk_drewN ?_ _ | refine blk_drew ?_ | refine blk_alloc ?_ _)); exact BK912.out) hb); have n8_ := Aside0.mk (blk_below (g := gb918) (o := .cells #[.int .i64 t913, .int .i64 t914, .slice Ao37 t941.length co37] 26 (0, 0)) (by (with_reducible repeat (first | refine blk_drewN ?_ _ | refine blk_drew ?_ | refine blk_alloc ?_ _)); refine blk_far ?_ NB918_962.out _; (with_reducible repeat (first | refine blk_drewN ?_ _ | refine blk_drew ?_ | refine blk_alloc ?_ _)); refine blk_far ?_ NB918_962.out _; (with_reducible repeat (first | refine blk_drewN ?_ _ | refine blk_drew ?_ | refine blk_alloc ?_ _)); refine blk_far ?_ NB918_962.out _; (with_reducible repeat (first | refine blk_drewN ?_ _ | refine blk_drew ?_ | refine blk_alloc ?_ _)); exact BK918.out) hb); have n9_ := Aside0.mk (blk_below (g := gb928) (o := .cells #[.int .i64 t922, .int .i64 t923, .slice Ao47 t924.length co47] 26 (0, 0)) (by (with_reducible repeat (first | refine blk_drewN ?_ _ | refine blk_drew ?_ | refine blk_alloc ?_ _)); refine blk_far ?_ NB928_962.out _; (with_reducible repeat (first | refine blk_drewN ?_ _ | refine blk_drew ?_ | refine blk_alloc ?_ _)); refine blk_far ?_ NB928_962.out _; (with_reducible repeat (first | refine blk_drewN ?_ _ | refine blk_drew ?_ | refine blk_alloc ?_ _)); refine blk_far ?_ NB928_962.out _; (with_reducible repeat (first | refine blk_drewN ?_ _ | refine blk_drew ?_ | refine blk_alloc ?_ _)); exact BK928.out) hb); have n10_ := Aside0.mk (blk_below (g := gb962) (o := .cells #[.int .i64 t956, .int .i64 t957, .slice Ao144 t958.length co144] 26 (0, 0)) (by (with_reducible repeat (first | refine blk_drewN ?_ _ | refine blk_drew ?_ | refine blk_alloc ?_ _)); refine blk_put (cs := #[.int .i64 t956, .int .i64 t957, .slice none 0 0]) ?_ 2 _ rfl; (with_reducible repeat (first | refine blk_drewN ?_ _ | refine blk_drew ?_ | refine blk_alloc ?_ _)); refine blk_put (cs := #[.int .i64 t956, .int .i64 0, .slice none 0 0]) ?_ 1 _ rfl; (with_reducible repeat (first | refine blk_drewN ?_ _ | refine blk_drew ?_ | refine blk_alloc ?_ _)); refine blk_put (cs := #[.int .i64 0, .int .i64 0, .slice none 0 0]) ?_ 0 _ rfl; (with_reducible repeat (first | refine blk_drewN ?_ _ | refine blk_drew ?_ | refine blk_alloc ?_ _)); exact BK962.out) hb); have n11_ := Aside0.mk (below_step (by repeat (first | (with_reducible first | exact HB.out | apply below_alloc | apply pw_below_drewN | apply below_drew1 | refine below_set ?_ GE896.out | refine below_set ?_ GE912.out | refine below_set ?_ GE918.out | refine below_set ?_ GE928.out | refine below_set ?_ GE962.out) | exact HB.out)) hb); clear HO_913002; clear HO_919002; clear HO_929002; clear HO952; clear HO955; clear HO960; clear BK896; clear BK912; clear BK918; clear BK928; clear BK962; clear HB; have HO_913002 := n0_; have HO_919002 := n1_; have HO_929002 := n2_; have HO952 := n3_; have HO955 := n4_; have HO960 := n5_; have BK896 := n6_; have BK912 := n7_; have BK918 := n8_; have BK928 := n9_; have BK962 := n10_; have HB := n11_; clear n0_ n1_ n2_ n3_ n4_ n5_ n6_ n7_ n8_ n9_ n10_ n11_; (try clear hb); (try clear hb2); (try clear hk); (try clear hi)))
                                    go_meet
                                    case rel => exact ⟨_, ((t961 != t911)), (by first | rfl | (simp; done) | (simp [*]; done)), H', ⟨by have := HJ16.out; have := HJ74.out; first | omega | exact Nat.le_refl _⟩, ⟨by (try simp only [hl919002_74]); (with_reducible repeat (first | apply Kd.R_alloc | apply Kd.R_drewN | apply Kd.R_drew)); exact Kd.R_mono HO_913002.out (fun _ hk => ⟨hk.1.1.1.1, ⟨hk.1.1.1.2, hk.2⟩⟩)⟩, ⟨by (try simp only [hl919002_74]); (with_reducible repeat (first | apply Kd.R_alloc | apply Kd.R_drewN | apply Kd.R_drew)); exact Kd.R_mono HO_919002.out (fun _ hk => ⟨hk.1.1.1.1, ⟨hk.1.1.1.2, hk.2⟩⟩)⟩, ⟨by (try simp only [hl919002_74]); (with_reducible repeat (first | apply Kd.R_alloc | apply Kd.R_drewN | apply Kd.R_drew)); exact Kd.R_mono HO_929002.out (fun _ hk => ⟨hk.1.1.1.1, ⟨hk.1.1.1.2, hk.2⟩⟩)⟩, ⟨by (try simp only [hl919002_74]); (with_reducible repeat (first | apply Kd.R_alloc | apply Kd.R_drewN | apply Kd.R_drew)); exact Kd.R_mono HO960.out (fun _ hk => ⟨hk.1.1.1.1.2, ⟨hk.1.1.1.2, hk.1.1.2⟩⟩)⟩, ⟨by (try simp only [hl919002_74]); (with_reducible repeat (first | refine blk_drewN ?_ _ | refine blk_drew ?_ | refine blk_alloc ?_ _)); exact BK896.out⟩, ⟨by (try simp only [hl919002_74]); (with_reducible repeat (first | refine blk_drewN ?_ _ | refine blk_drew ?_ | refine blk_alloc ?_ _)); exact BK912.out⟩, ⟨by (try simp only [hl919002_74]); (with_reducible repeat (first | refine blk_drewN ?_ _ | refine blk_drew ?_ | refine blk_alloc ?_ _)); exact BK918.out⟩, ⟨by (try simp only [hl919002_74]); (with_reducible repeat (first | refine blk_drewN ?_ _ | refine blk_drew ?_ | refine blk_alloc ?_ _)); exact BK928.out⟩, ⟨by (try simp only [hl919002_74]); (with_reducible repeat (first | refine blk_drewN ?_ _ | refine blk_drew ?_ | refine blk_alloc ?_ _)); exact BK962.out⟩, ⟨by repeat (first | (with_reducible first | exact HB.out | apply below_alloc | apply pw_below_drewN | apply below_drew1 | refine below_set ?_ GE896.out | refine below_set ?_ GE912.out | refine below_set ?_ GE918.out | refine below_set ?_ GE928.out | refine below_set ?_ GE962.out) | exact HB.out)⟩⟩
                                  · replace c146 := Bool.eq_false_iff.mpr c146
                                    subst c146
                                    have H1 : (laws_FnExactAddToRegion.j2 kj74 t945 true t922 t923 t946) = some r := by rw [if_neg (show ¬ (false = true) by decide)] at H; exact H
                                    clear H
                                    have H := H1
                                    clear H1
                                    have H' := Aside0.mk H
                                    clear H
                                    have hnb157 := NB962_896.out
                                    have hnc157 := NB896_962.out
                                    have hnb158 := NB962_912.out
                                    have hnc158 := NB912_962.out
                                    have hnb159 := NB962_918.out
                                    have hnc159 := NB918_962.out
                                    have hnb160 := NB962_928.out
                                    have hnc160 := NB928_962.out
                                    have hcz161_0 : w138.cell? ⟨gb962, 0, none⟩ = some (.int .i64 0) := (blk_cell BK962.out 0).trans rfl
                                    have hcz161_1 : w138.cell? ⟨gb962, 1, none⟩ = some (.int .i64 0) := (blk_cell BK962.out 1).trans rfl
                                    have hcz161_2 : w138.cell? ⟨gb962, 2, none⟩ = some (.slice none 0 0) := (blk_cell BK962.out 2).trans rfl
                                    have hfz161_0 := blk_frozen BK962.out 0
                                    have hfz161_1 := blk_frozen BK962.out 1
                                    have hfz161_2 := blk_frozen BK962.out 2
                                    have hnb162 := NB912_896.out
                                    have hnc162 := NB896_912.out
                                    have hnb163 := NB912_918.out
                                    have hnc163 := NB918_912.out
                                    have hnb164 := NB912_928.out
                                    have hnc164 := NB928_912.out
                                    have hcz165_0 : w138.cell? ⟨gb912, 0, none⟩ = some (.int .i64 t906) := (blk_cell BK912.out 0).trans rfl
                                    have hcz165_1 : w138.cell? ⟨gb912, 1, none⟩ = some (.int .i64 t907) := (blk_cell BK912.out 1).trans rfl
                                    have hcz165_2 : w138.cell? ⟨gb912, 2, none⟩ = some (.slice Ao30 t908.length co30) := (blk_cell BK912.out 2).trans rfl
                                    have hfz165_0 := blk_frozen BK912.out 0
                                    have hfz165_1 := blk_frozen BK912.out 1
                                    have hfz165_2 := blk_frozen BK912.out 2
                                    go_wp2_with (first | ((with_reducible refine gate_callee (f := 25) rfl ?_); refine goesL_ (some 107) rfl rfl Try.func25 (by kernel_rfl) rfl #[.agg #[.int .i64 t956, .int .i64 t957, .slice Ao144 t958.length co144], .agg #[.int .i64 t906, .int .i64 t907, .slice Ao30 t908.length co30]] rfl (by (try simp only [List.map_toArray, List.map_cons, List.map_nil]); first | done | rfl | (simp only [List.length_drop, List.length_take]; rfl)) ?_; (with_reducible refine (laws_eqField.calls kj74 t956 t957 _ _ t958 t906 t907 _ _ t908 false _ ?side1 ?side2 ?side3 ?side4 A145.out).mono ?_); (case side1 => refine (Kd.R_reads' (e := 3) (base := w.heap.size) (ok := fun k_ => (((((True ∧ some k_ ≠ (.slice Ao30 t908.length co30 : Value).ownBlock) ∧ some k_ ≠ (.slice Ao37 t941.length co37 : Value).ownBlock) ∧ some k_ ≠ (.slice Ao47 t924.length co47 : Value).ownBlock) ∧ some k_ ≠ (.slice Ao135 t950.length co135 : Value).ownBlock) ∧ some k_ ≠ (.slice Ao136 t953.length co136 : Value).ownBlock)) (n := t958.length) (c := co144) ?_).2.2; exact (by (with_reducible repeat (first | apply Kd.R_alloc | apply Kd.R_drewN | apply Kd.R_drew)); exact (Kd.R_mono (Kd.R_far (p := ⟨gb962, 2, none⟩) (Kd.R_far (p := ⟨gb962, 1, none⟩) (Kd.R_far (p := ⟨gb962, 0, none⟩) (Kd.R_types HO960.out BK962.out (by decide)) (fun _ hk => hk.2) (.int .i64 t956)) (fun _ hk => hk.2) (.int .i64 t957)) (fun _ hk => hk.2) (.slice Ao144 t958.length co144)) (fun _ h_ => h_.1)))); (case side2 => exact (Kd.R_reads' HO960.out).2.1); (case side3 => refine (Kd.R_reads' (e := 3) (base := w.heap.size) (ok := fun k_ => ((((some k_ ≠ (.slice Ao37 t941.length co37 : Value).ownBlock ∧ some k_ ≠ (.slice Ao47 t924.length co47 : Value).ownBlock) ∧ some k_ ≠ (.slice Ao135 t950.length co135 : Value).ownBlock) ∧ some k_ ≠ (.slice Ao136 t953.length co136 : Value).ownBlock) ∧ some k_ ≠ (.slice Ao144 t958.length co144 : Value).ownBlock)) (n := t908.length) (c := co30) ?_).2.2; exact (by (with_reducible repeat (first | apply Kd.R_alloc | apply Kd.R_drewN | apply Kd.R_drew)); exact (Kd.R_mono (Kd.R_far (p := ⟨gb962, 2, none⟩) (Kd.R_far (p := ⟨gb962, 1, none⟩) (Kd.R_far (p := ⟨gb962, 0, none⟩) (Kd.R_types HO_913002.out BK962.out (by decide)) (fun _ hk => hk.2) (.int .i64 t956)) (fun _ hk => hk.2) (.int .i64 t957)) (fun _ hk => hk.2) (.slice Ao144 t958.length co144)) (fun _ h_ => h_.1)))); (case side4 => exact (Kd.R_reads' HO_913002.out).2.1); rintro e w166 ⟨rfl, hb⟩; refine ⟨_, rfl, ?_⟩; have n0_ := Aside0.mk (Kd.R_below (by (with_reducible repeat (first | apply Kd.R_alloc | apply Kd.R_drewN | apply Kd.R_drew)); exact (Kd.R_mono (Kd.R_far (p := ⟨gb962, 2, none⟩) (Kd.R_far (p := ⟨gb962, 1, none⟩) (Kd.R_far (p := ⟨gb962, 0, none⟩) (Kd.R_types HO_913002.out BK962.out (by decide)) (fun _ hk => hk.2) (.int .i64 t956)) (fun _ hk => hk.2) (.int .i64 t957)) (fun _ hk => hk.2) (.slice Ao144 t958.length co144)) (fun _ h_ => h_.1))) hb); have n1_ := Aside0.mk (Kd.R_below (by (with_reducible repeat (first | apply Kd.R_alloc | apply Kd.R_drewN | apply Kd.R_drew)); exact (Kd.R_mono (Kd.R_far (p := ⟨gb962, 2, none⟩) (Kd.R_far (p := ⟨gb962, 1, none⟩) (Kd.R_far (p := ⟨gb962, 0, none⟩) (Kd.R_types HO_919002.out BK962.out (by decide)) (fun _ hk => hk.2) (.int .i64 t956)) (fun _ hk => hk.2) (.int .i64 t957)) (fun _ hk => hk.2) (.slice Ao144 t958.length co144)) (fun _ h_ => h_.1))) hb); have n2_ := Aside0.mk (Kd.R_below (by (with_reducible repeat (first | apply Kd.R_alloc | apply Kd.R_drewN | apply Kd.R_drew)); exact (Kd.R_mono (Kd.R_far (p := ⟨gb962, 2, none⟩) (Kd.R_far (p := ⟨gb962, 1, none⟩) (Kd.R_far (p := ⟨gb962, 0, none⟩) (Kd.R_types HO_929002.out BK962.out (by decide)) (fun _ hk => hk.2) (.int .i64 t956)) (fun _ hk => hk.2) (.int .i64 t957)) (fun _ hk => hk.2) (.slice Ao144 t958.length co144)) (fun _ h_ => h_.1))) hb); have n3_ := Aside0.mk (Kd.R_below (by (with_reducible repeat (first | apply Kd.R_alloc | apply Kd.R_drewN | apply Kd.R_drew)); exact (Kd.R_mono (Kd.R_far (p := ⟨gb962, 2, none⟩) (Kd.R_far (p := ⟨gb962, 1, none⟩) (Kd.R_far (p := ⟨gb962, 0, none⟩) (Kd.R_types HO952.out BK962.out (by decide)) (fun _ hk => hk.2) (.int .i64 t956)) (fun _ hk => hk.2) (.int .i64 t957)) (fun _ hk => hk.2) (.slice Ao144 t958.length co144)) (fun _ h_ => h_.1))) hb); have n4_ := Aside0.mk (Kd.R_below (by (with_reducible repeat (first | apply Kd.R_alloc | apply Kd.R_drewN | apply Kd.R_drew)); exact (Kd.R_mono (Kd.R_far (p := ⟨gb962, 2, none⟩) (Kd.R_far (p := ⟨gb962, 1, none⟩) (Kd.R_far (p := ⟨gb962, 0, none⟩) (Kd.R_types HO955.out BK962.out (by decide)) (fun _ hk => hk.2) (.int .i64 t956)) (fun _ hk => hk.2) (.int .i64 t957)) (fun _ hk => hk.2) (.slice Ao144 t958.length co144)) (fun _ h_ => h_.1))) hb); have n5_ := Aside0.mk (Kd.R_below (by (with_reducible repeat (first | apply Kd.R_alloc | apply Kd.R_drewN | apply Kd.R_drew)); exact (Kd.R_mono (Kd.R_far (p := ⟨gb962, 2, none⟩) (Kd.R_far (p := ⟨gb962, 1, none⟩) (Kd.R_far (p := ⟨gb962, 0, none⟩) (Kd.R_types HO960.out BK962.out (by decide)) (fun _ hk => hk.2) (.int .i64 t956)) (fun _ hk => hk.2) (.int .i64 t957)) (fun _ hk => hk.2) (.slice Ao144 t958.length co144)) (fun _ h_ => h_.1))) hb); have n6_ := Aside0.mk (blk_below (g := gb896) (o := .cells #[.int .i64 a0_0, .int .i64 a0_1, .slice A0_2 l0_2.length c0_2] 36 (0, 0)) (by (with_reducible repeat (first | refine blk_drewN ?_ _ | refine blk_drew ?_ | refine blk_alloc ?_ _)); refine blk_far ?_ NB896_962.out _; (with_reducible repeat (first | refine blk_drewN ?_ _ | refine blk_drew ?_ | refine blk_alloc ?_ _)); refine blk_far ?_ NB896_962.out _; (with_reducible repeat (first | refine blk_drewN ?_ _ | refine blk_drew ?_ | refine blk_alloc ?_ _)); refine blk_far ?_ NB896_962.out _; (with_reducible repeat (first | refine blk_drewN ?_ _ | refine blk_drew ?_ | refine blk_alloc ?_ _)); exact BK896.out) hb); have n7_ := Aside0.mk (blk_below (g := gb912) (o := .cells #[.int .i64 t906, .int .i64 t907, .slice Ao30 t908.length co30] 26 (0, 0)) (by (with_reducible repeat (first | refine blk_drewN ?_ _ | refine blk_drew ?_ | refine blk_alloc ?_ _)); refine blk_far ?_ NB912_962.out _; (with_reducible repeat (first | refine blk_drewN ?_ _ | refine blk_drew ?_ | refine blk_alloc ?_ _)); refine blk_far ?_ NB912_962.out _; (with_reducible repeat (first | refine blk_drewN ?_ _ | refine blk_drew ?_ | refine blk_alloc ?_ _)); refine blk_far ?_ NB912_962.out _; (with_reducible repeat (first | refine blk_drewN ?_ _ | refine blk_drew ?_ | refine blk_alloc ?_ _)); exact BK912.out) hb); have n8_ := Aside0.mk (blk_below (g := gb918) (o := .cells #[.int .i64 t913, .int .i64 t914, .slice Ao37 t941.length co37] 26 (0, 0)) (by (with_reducible repeat (first | refine blk_drewN ?_ _ | refine blk_drew ?_ | refine blk_alloc ?_ _)); refine blk_far ?_ NB918_962.out _; (with_reducible repeat (first | refine blk_drewN ?_ _ | refine blk_drew ?_ | refine blk_alloc ?_ _)); refine blk_far ?_ NB918_962.out _; (with_reducible repeat (first | refine blk_drewN ?_ _ | refine blk_drew ?_ | refine blk_alloc ?_ _)); refine blk_far ?_ NB918_962.out _; (with_reducible repeat (first | refine blk_drewN ?_ _ | refine blk_drew ?_ | refine blk_alloc ?_ _)); exact BK918.out) hb); have n9_ := Aside0.mk (blk_below (g := gb928) (o := .cells #[.int .i64 t922, .int .i64 t923, .slice Ao47 t924.length co47] 26 (0, 0)) (by (with_reducible repeat (first | refine blk_drewN ?_ _ | refine blk_drew ?_ | refine blk_alloc ?_ _)); refine blk_far ?_ NB928_962.out _; (with_reducible repeat (first | refine blk_drewN ?_ _ | refine blk_drew ?_ | refine blk_alloc ?_ _)); refine blk_far ?_ NB928_962.out _; (with_reducible repeat (first | refine blk_drewN ?_ _ | refine blk_drew ?_ | refine blk_alloc ?_ _)); refine blk_far ?_ NB928_962.out _; (with_reducible repeat (first | refine blk_drewN ?_ _ | refine blk_drew ?_ | refine blk_alloc ?_ _)); exact BK928.out) hb); have n10_ := Aside0.mk (blk_below (g := gb962) (o := .cells #[.int .i64 t956, .int .i64 t957, .slice Ao144 t958.length co144] 26 (0, 0)) (by (with_reducible repeat (first | refine blk_drewN ?_ _ | refine blk_drew ?_ | refine blk_alloc ?_ _)); refine blk_put (cs := #[.int .i64 t956, .int .i64 t957, .slice none 0 0]) ?_ 2 _ rfl; (with_reducible repeat (first | refine blk_drewN ?_ _ | refine blk_drew ?_ | refine blk_alloc ?_ _)); refine blk_put (cs := #[.int .i64 t956, .int .i64 0, .slice none 0 0]) ?_ 1 _ rfl; (with_reducible repeat (first | refine blk_drewN ?_ _ | refine blk_drew ?_ | refine blk_alloc ?_ _)); refine blk_put (cs := #[.int .i64 0, .int .i64 0, .slice none 0 0]) ?_ 0 _ rfl; (with_reducible repeat (first | refine blk_drewN ?_ _ | refine blk_drew ?_ | refine blk_alloc ?_ _)); exact BK962.out) hb); have n11_ := Aside0.mk (below_step (by repeat (first | (with_reducible first | exact HB.out | apply below_alloc | apply pw_below_drewN | apply below_drew1 | refine below_set ?_ GE896.out | refine below_set ?_ GE912.out | refine below_set ?_ GE918.out | refine below_set ?_ GE928.out | refine below_set ?_ GE962.out) | exact HB.out)) hb); clear HO_913002; clear HO_919002; clear HO_929002; clear HO952; clear HO955; clear HO960; clear BK896; clear BK912; clear BK918; clear BK928; clear BK962; clear HB; have HO_913002 := n0_; have HO_919002 := n1_; have HO_929002 := n2_; have HO952 := n3_; have HO955 := n4_; have HO960 := n5_; have BK896 := n6_; have BK912 := n7_; have BK918 := n8_; have BK928 := n9_; have BK962 := n10_; have HB := n11_; clear n0_ n1_ n2_ n3_ n4_ n5_ n6_ n7_ n8_ n9_ n10_ n11_; (try clear hb); (try clear hb2); (try clear hk); (try clear hi)))
                                    go_meet
                                    case rel => exact ⟨_, (true), (by first | rfl | (simp; done) | (simp [*]; done)), H', ⟨by have := HJ16.out; have := HJ74.out; first | omega | exact Nat.le_refl _⟩, ⟨by (try simp only [hl919002_74]); (with_reducible repeat (first | apply Kd.R_alloc | apply Kd.R_drewN | apply Kd.R_drew)); exact Kd.R_mono HO_913002.out (fun _ hk => ⟨hk.1.1.1.1, ⟨hk.1.1.1.2, hk.2⟩⟩)⟩, ⟨by (try simp only [hl919002_74]); (with_reducible repeat (first | apply Kd.R_alloc | apply Kd.R_drewN | apply Kd.R_drew)); exact Kd.R_mono HO_919002.out (fun _ hk => ⟨hk.1.1.1.1, ⟨hk.1.1.1.2, hk.2⟩⟩)⟩, ⟨by (try simp only [hl919002_74]); (with_reducible repeat (first | apply Kd.R_alloc | apply Kd.R_drewN | apply Kd.R_drew)); exact Kd.R_mono HO_929002.out (fun _ hk => ⟨hk.1.1.1.1, ⟨hk.1.1.1.2, hk.2⟩⟩)⟩, ⟨by (try simp only [hl919002_74]); (with_reducible repeat (first | apply Kd.R_alloc | apply Kd.R_drewN | apply Kd.R_drew)); exact Kd.R_mono HO960.out (fun _ hk => ⟨hk.1.1.1.1.2, ⟨hk.1.1.1.2, hk.1.1.2⟩⟩)⟩, ⟨by (try simp only [hl919002_74]); (with_reducible repeat (first | refine blk_drewN ?_ _ | refine blk_drew ?_ | refine blk_alloc ?_ _)); exact BK896.out⟩, ⟨by (try simp only [hl919002_74]); (with_reducible repeat (first | refine blk_drewN ?_ _ | refine blk_drew ?_ | refine blk_alloc ?_ _)); exact BK912.out⟩, ⟨by (try simp only [hl919002_74]); (with_reducible repeat (first | refine blk_drewN ?_ _ | refine blk_drew ?_ | refine blk_alloc ?_ _)); exact BK918.out⟩, ⟨by (try simp only [hl919002_74]); (with_reducible repeat (first | refine blk_drewN ?_ _ | refine blk_drew ?_ | refine blk_alloc ?_ _)); exact BK928.out⟩, ⟨by (try simp only [hl919002_74]); (with_reducible repeat (first | refine blk_drewN ?_ _ | refine blk_drew ?_ | refine blk_alloc ?_ _)); exact BK962.out⟩, ⟨by repeat (first | (with_reducible first | exact HB.out | apply below_alloc | apply pw_below_drewN | apply below_drew1 | refine below_set ?_ GE896.out | refine below_set ?_ GE912.out | refine below_set ?_ GE918.out | refine below_set ?_ GE928.out | refine below_set ?_ GE962.out) | exact HB.out)⟩⟩
                              case rest =>
                                as_aux_lemma =>
                                  clear HC122
                                  try clear c1
                                  try clear c2
                                  try clear p2
                                  try clear c3
                                  try clear c4
                                  try clear c4b0
                                  try clear c4b1
                                  try clear c5
                                  try clear c6
                                  try clear c7
                                  try clear c7b0
                                  try clear c8
                                  try clear c9
                                  try clear c10
                                  try clear c11
                                  try clear c12
                                  try clear c13
                                  try clear c14
                                  try clear c15
                                  try clear c16
                                  try clear c20
                                  try clear c22
                                  try clear c23
                                  try clear c25
                                  try clear c26
                                  try clear c27
                                  try clear c28
                                  try clear c29
                                  try clear c32
                                  try clear c33
                                  try clear c34
                                  try clear c35
                                  try clear c43
                                  try clear c44
                                  try clear c45
                                  try clear c49
                                  try clear c50
                                  try clear c51
                                  try clear c52
                                  try clear c54
                                  try clear c55
                                  try clear c58
                                  try clear c59
                                  try clear c60
                                  try clear c62
                                  try clear c63
                                  try clear c66
                                  try clear c69
                                  try clear c72
                                  try clear c82
                                  try clear c83
                                  try clear c84
                                  try clear c88
                                  try clear c88b0
                                  try clear c90
                                  try clear c91
                                  try clear c92
                                  try clear c93
                                  try clear c95
                                  try clear c96
                                  try clear c99
                                  try clear c100
                                  try clear c101
                                  try clear c103
                                  try clear c104
                                  try clear c107
                                  try clear c110
                                  try clear c110b0
                                  try clear c111
                                  try clear c112
                                  try clear c113
                                  try clear c118
                                  try clear c118b0
                                  try clear c118b1
                                  try clear c123
                                  try clear c124
                                  try clear c125
                                  try clear c130
                                  try clear c131
                                  try clear c139
                                  try clear c140
                                  try clear c141
                                  try clear c142
                                  try clear c146
                                  try clear c147
                                  try clear c148
                                  try clear c149
                                  try clear c150
                                  try clear c152
                                  try clear c153
                                  try clear c154
                                  try clear c157
                                  try clear c158
                                  try clear c159
                                  try clear c160
                                  try clear c162
                                  try clear c163
                                  try clear c164
                                  try clear hcz102_0
                                  try clear hcz102_1
                                  try clear hcz102_2
                                  try clear hcz105_0
                                  try clear hcz105_1
                                  try clear hcz105_2
                                  try clear hcz114_0
                                  try clear hcz114_1
                                  try clear hcz114_2
                                  try clear hcz116_0
                                  try clear hcz116_1
                                  try clear hcz116_2
                                  try clear hcz126_0
                                  try clear hcz126_1
                                  try clear hcz126_2
                                  try clear hcz128_0
                                  try clear hcz128_1
                                  try clear hcz128_2
                                  try clear hcz132_0
                                  try clear hcz132_1
                                  try clear hcz132_2
                                  try clear hcz143_0
                                  try clear hcz143_1
                                  try clear hcz143_2
                                  try clear hcz151_0
                                  try clear hcz151_1
                                  try clear hcz151_2
                                  try clear hcz155_0
                                  try clear hcz155_1
                                  try clear hcz155_2
                                  try clear hcz161_0
                                  try clear hcz161_1
                                  try clear hcz161_2
                                  try clear hcz165_0
                                  try clear hcz165_1
                                  try clear hcz165_2
                                  try clear hcz19_0
                                  try clear hcz19_1
                                  try clear hcz19_2
                                  try clear hcz21_0
                                  try clear hcz21_1
                                  try clear hcz21_2
                                  try clear hcz29_0
                                  try clear hcz29_1
                                  try clear hcz29_2
                                  try clear hcz31_0
                                  try clear hcz31_1
                                  try clear hcz31_2
                                  try clear hcz36_0
                                  try clear hcz36_1
                                  try clear hcz36_2
                                  try clear hcz39_0
                                  try clear hcz39_1
                                  try clear hcz39_2
                                  try clear hcz46_0
                                  try clear hcz46_1
                                  try clear hcz46_2
                                  try clear hcz53_0
                                  try clear hcz53_1
                                  try clear hcz53_2
                                  try clear hcz56_0
                                  try clear hcz56_1
                                  try clear hcz56_2
                                  try clear hcz61_0
                                  try clear hcz61_1
                                  try clear hcz61_2
                                  try clear hcz64_0
                                  try clear hcz64_1
                                  try clear hcz64_2
                                  try clear hcz85_0
                                  try clear hcz85_1
                                  try clear hcz85_2
                                  try clear hcz94_0
                                  try clear hcz94_1
                                  try clear hcz94_2
                                  try clear hcz97_0
                                  try clear hcz97_1
                                  try clear hcz97_2
                                  try clear hcz9_0
                                  try clear hcz9_1
                                  try clear hcz9_2
                                  try clear hfz102_0
                                  try clear hfz102_1
                                  try clear hfz102_2
                                  try clear hfz105_0
                                  try clear hfz105_1
                                  try clear hfz105_2
                                  try clear hfz114_0
                                  try clear hfz114_1
                                  try clear hfz114_2
                                  try clear hfz116_0
                                  try clear hfz116_1
                                  try clear hfz116_2
                                  try clear hfz126_0
                                  try clear hfz126_1
                                  try clear hfz126_2
                                  try clear hfz128_0
                                  try clear hfz128_1
                                  try clear hfz128_2
                                  try clear hfz132_0
                                  try clear hfz132_1
                                  try clear hfz132_2
                                  try clear hfz143_0
                                  try clear hfz143_1
                                  try clear hfz143_2
                                  try clear hfz151_0
                                  try clear hfz151_1
                                  try clear hfz151_2
                                  try clear hfz155_0
                                  try clear hfz155_1
                                  try clear hfz155_2
                                  try clear hfz161_0
                                  try clear hfz161_1
                                  try clear hfz161_2
                                  try clear hfz165_0
                                  try clear hfz165_1
                                  try clear hfz165_2
                                  try clear hfz19_0
                                  try clear hfz19_1
                                  try clear hfz19_2
                                  try clear hfz21_0
                                  try clear hfz21_1
                                  try clear hfz21_2
                                  try clear hfz29_0
                                  try clear hfz29_1
                                  try clear hfz29_2
                                  try clear hfz31_0
                                  try clear hfz31_1
                                  try clear hfz31_2
                                  try clear hfz36_0
                                  try clear hfz36_1
                                  try clear hfz36_2
                                  try clear hfz39_0
                                  try clear hfz39_1
                                  try clear hfz39_2
                                  try clear hfz46_0
                                  try clear hfz46_1
                                  try clear hfz46_2
                                  try clear hfz53_0
                                  try clear hfz53_1
                                  try clear hfz53_2
                                  try clear hfz56_0
                                  try clear hfz56_1
                                  try clear hfz56_2
                                  try clear hfz61_0
                                  try clear hfz61_1
                                  try clear hfz61_2
                                  try clear hfz64_0
                                  try clear hfz64_1
                                  try clear hfz64_2
                                  try clear hfz85_0
                                  try clear hfz85_1
                                  try clear hfz85_2
                                  try clear hfz94_0
                                  try clear hfz94_1
                                  try clear hfz94_2
                                  try clear hfz97_0
                                  try clear hfz97_1
                                  try clear hfz97_2
                                  try clear hfz9_0
                                  try clear hfz9_1
                                  try clear hfz9_2
                                  try clear p2
                                  obtain ⟨kq, x113_121, rfl, HA, HJ121, HO_913002, HO_919002, HO_929002, HO_963002, BK896, BK912, BK918, BK928, BK962, HB⟩ := hcut
                                  have hl929002_121 := (Kd.R_reads' HO_929002.out).1
                                  rw [hl929002_121] at HO_929002
                                  (try simp only [hl929002_121])
                                  (try simp only [hl929002_121] at BK896)
                                  (try simp only [hl929002_121] at BK912)
                                  (try simp only [hl929002_121] at BK918)
                                  (try simp only [hl929002_121] at BK928)
                                  (try simp only [hl929002_121] at BK962)
                                  (try simp only [hl929002_121] at HO_913002)
                                  (try simp only [hl929002_121] at HO_919002)
                                  (try simp only [hl929002_121] at HO_963002)
                                  cases kq with
                                  | zero => exact absurd HA.out (by simp [laws_FnExactAddToRegion.j2])
                                  | succ kj121 =>
                                    have H := HA.out
                                    clear HA
                                    simp only [laws_FnExactAddToRegion.j2] at H
                                    by_cases c167 : x113_121 = true
                                    · subst c167
                                      have H1 : (some false) = some r := by rw [if_pos rfl] at H; exact H
                                      exact absurd ((Option.some.inj H1).trans hrt_) (by decide)
                                    · replace c167 := Bool.eq_false_iff.mpr c167
                                      subst c167
                                      have H1 : ((laws_heldField.f kj121 t922 t923 t946 1).bind fun t964 => (if t964 < 0 then (some false) else (if t964 = t945 then (some true) else (some false)))) = some r := by rw [if_neg (show ¬ (false = true) by decide)] at H; exact H
                                      clear H
                                      have H := H1
                                      clear H1
                                      replace H := Option.bind_eq_some_iff.mp H
                                      obtain ⟨t964, A1680, H⟩ := H
                                      replace H : (if t964 < 0 then (some false) else (if t964 = t945 then (some true) else (some false))) = some r := H
                                      have A168 := Aside0.mk A1680
                                      clear A1680
                                      by_cases c169 : t964 < 0
                                      · rw [if_pos c169] at H
                                        have c169b0 : decide (t964 < 0) = true := decide_eq_true c169
                                        clear c169
                                        obtain rfl := Option.some.inj H
                                        have hnb170 := NB928_896.out
                                        have hnc170 := NB896_928.out
                                        have hnb171 := NB928_912.out
                                        have hnc171 := NB912_928.out
                                        have hnb172 := NB928_918.out
                                        have hnc172 := NB918_928.out
                                        have hnb173 := NB928_962.out
                                        have hnc173 := NB962_928.out
                                        have hcz174_0 : wc.cell? ⟨gb928, 0, none⟩ = some (.int .i64 t922) := (blk_cell BK928.out 0).trans rfl
                                        have hcz174_1 : wc.cell? ⟨gb928, 1, none⟩ = some (.int .i64 t923) := (blk_cell BK928.out 1).trans rfl
                                        have hcz174_2 : wc.cell? ⟨gb928, 2, none⟩ = some (.slice Ao47 t946.length co47) := (blk_cell BK928.out 2).trans rfl
                                        have hfz174_0 := blk_frozen BK928.out 0
                                        have hfz174_1 := blk_frozen BK928.out 1
                                        have hfz174_2 := blk_frozen BK928.out 2
                                        go_wp2_with (first | ((with_reducible refine gate_callee (f := 29) rfl ?_); refine goesL_ (some 116) rfl rfl Try.func29 (by kernel_rfl) rfl #[.agg #[.int .i64 t922, .int .i64 t923, .slice Ao47 t946.length co47], .int .i64 1] rfl (by (try simp only [List.map_toArray, List.map_cons, List.map_nil]); first | done | rfl | (simp only [List.length_drop, List.length_take]; rfl)) ?_; (with_reducible refine (laws_heldField.calls kj121 t922 t923 _ _ t946 1 t964 _ ?side1 ?side2 A168.out).mono ?_); (case side1 => repeat (first | exact (Kd.R_reads' HO_929002.out).2.2 | (with_reducible refine Kd.C_alloc ?_ _) | (with_reducible refine Kd.C_drewN ?_ _) | (with_reducible refine Kd.C_drew ?_))); (case side2 => exact (Kd.R_reads' HO_929002.out).2.1); rintro e w175 ⟨rfl, hb⟩; refine ⟨_, rfl, ?_⟩; have n0_ := Aside0.mk (Kd.R_below (by (with_reducible repeat (first | apply Kd.R_alloc | apply Kd.R_drewN | apply Kd.R_drew)); exact HO_913002.out) hb); have n1_ := Aside0.mk (Kd.R_below (by (with_reducible repeat (first | apply Kd.R_alloc | apply Kd.R_drewN | apply Kd.R_drew)); exact HO_919002.out) hb); have n2_ := Aside0.mk (Kd.R_below (by (with_reducible repeat (first | apply Kd.R_alloc | apply Kd.R_drewN | apply Kd.R_drew)); exact HO_929002.out) hb); have n3_ := Aside0.mk (Kd.R_below (by (with_reducible repeat (first | apply Kd.R_alloc | apply Kd.R_drewN | apply Kd.R_drew)); exact HO_963002.out) hb); have n4_ := Aside0.mk (blk_below (g := gb896) (o := .cells #[.int .i64 a0_0, .int .i64 a0_1, .slice A0_2 l0_2.length c0_2] 36 (0, 0)) BK896.out hb); have n5_ := Aside0.mk (blk_below (g := gb912) (o := .cells #[.int .i64 t906, .int .i64 t907, .slice Ao30 t908.length co30] 26 (0, 0)) BK912.out hb); have n6_ := Aside0.mk (blk_below (g := gb918) (o := .cells #[.int .i64 t913, .int .i64 t914, .slice Ao37 t941.length co37] 26 (0, 0)) BK918.out hb); have n7_ := Aside0.mk (blk_below (g := gb928) (o := .cells #[.int .i64 t922, .int .i64 t923, .slice Ao47 t946.length co47] 26 (0, 0)) BK928.out hb); have n8_ := Aside0.mk (blk_below (g := gb962) (o := .cells #[.int .i64 t956, .int .i64 t957, .slice Ao144 t958.length co144] 26 (0, 0)) BK962.out hb); have n9_ := Aside0.mk (below_step (by repeat (first | (with_reducible first | exact HB.out | apply below_alloc | apply pw_below_drewN | apply below_drew1 | refine below_set ?_ GE896.out | refine below_set ?_ GE912.out | refine below_set ?_ GE918.out | refine below_set ?_ GE928.out | refine below_set ?_ GE962.out) | exact HB.out)) hb); clear HO_913002; clear HO_919002; clear HO_929002; clear HO_963002; clear BK896; clear BK912; clear BK918; clear BK928; clear BK962; clear HB; have HO_913002 := n0_; have HO_919002 := n1_; have HO_929002 := n2_; have HO_963002 := n3_; have BK896 := n4_; have BK912 := n5_; have BK918 := n6_; have BK928 := n7_; have BK962 := n8_; have HB := n9_; clear n0_ n1_ n2_ n3_ n4_ n5_ n6_ n7_ n8_ n9_; (try clear hb); (try clear hb2); (try clear hk); (try clear hi)))
                                        go_ret
                                        exact ⟨by first | rfl | (simp [errW_none, errW_some] <;> rfl) | (simp [*, errW_none, errW_some] <;> rfl), by repeat (first | (with_reducible first | exact HB.out | apply below_alloc | apply pw_below_drewN | apply below_drew1 | refine below_set ?_ GE896.out | refine below_set ?_ GE912.out | refine below_set ?_ GE918.out | refine below_set ?_ GE928.out | refine below_set ?_ GE962.out) | exact HB.out)⟩
                                      · rw [if_neg c169] at H
                                        have c169b0 : decide (t964 < 0) = false := decide_eq_false c169
                                        clear c169
                                        by_cases c176 : t964 = t945
                                        · rw [if_pos c176] at H
                                          have c176b0 : (t964 == t945) = true := beq_iff_eq.mpr c176
                                          have c176b1 : (t964 != t945) = false := bne_eq_false_iff_eq.mpr c176
                                          clear c176
                                          obtain rfl := Option.some.inj H
                                          have hnb177 := NB928_896.out
                                          have hnc177 := NB896_928.out
                                          have hnb178 := NB928_912.out
                                          have hnc178 := NB912_928.out
                                          have hnb179 := NB928_918.out
                                          have hnc179 := NB918_928.out
                                          have hnb180 := NB928_962.out
                                          have hnc180 := NB962_928.out
                                          have hcz181_0 : wc.cell? ⟨gb928, 0, none⟩ = some (.int .i64 t922) := (blk_cell BK928.out 0).trans rfl
                                          have hcz181_1 : wc.cell? ⟨gb928, 1, none⟩ = some (.int .i64 t923) := (blk_cell BK928.out 1).trans rfl
                                          have hcz181_2 : wc.cell? ⟨gb928, 2, none⟩ = some (.slice Ao47 t946.length co47) := (blk_cell BK928.out 2).trans rfl
                                          have hfz181_0 := blk_frozen BK928.out 0
                                          have hfz181_1 := blk_frozen BK928.out 1
                                          have hfz181_2 := blk_frozen BK928.out 2
                                          go_wp2_with (first | ((with_reducible refine gate_callee (f := 29) rfl ?_); refine goesL_ (some 116) rfl rfl Try.func29 (by kernel_rfl) rfl #[.agg #[.int .i64 t922, .int .i64 t923, .slice Ao47 t946.length co47], .int .i64 1] rfl (by (try simp only [List.map_toArray, List.map_cons, List.map_nil]); first | done | rfl | (simp only [List.length_drop, List.length_take]; rfl)) ?_; (with_reducible refine (laws_heldField.calls kj121 t922 t923 _ _ t946 1 t964 _ ?side1 ?side2 A168.out).mono ?_); (case side1 => repeat (first | exact (Kd.R_reads' HO_929002.out).2.2 | (with_reducible refine Kd.C_alloc ?_ _) | (with_reducible refine Kd.C_drewN ?_ _) | (with_reducible refine Kd.C_drew ?_))); (case side2 => exact (Kd.R_reads' HO_929002.out).2.1); rintro e w182 ⟨rfl, hb⟩; refine ⟨_, rfl, ?_⟩; have n0_ := Aside0.mk (Kd.R_below (by (with_reducible repeat (first | apply Kd.R_alloc | apply Kd.R_drewN | apply Kd.R_drew)); exact HO_913002.out) hb); have n1_ := Aside0.mk (Kd.R_below (by (with_reducible repeat (first | apply Kd.R_alloc | apply Kd.R_drewN | apply Kd.R_drew)); exact HO_919002.out) hb); have n2_ := Aside0.mk (Kd.R_below (by (with_reducible repeat (first | apply Kd.R_alloc | apply Kd.R_drewN | apply Kd.R_drew)); exact HO_929002.out) hb); have n3_ := Aside0.mk (Kd.R_below (by (with_reducible repeat (first | apply Kd.R_alloc | apply Kd.R_drewN | apply Kd.R_drew)); exact HO_963002.out) hb); have n4_ := Aside0.mk (blk_below (g := gb896) (o := .cells #[.int .i64 a0_0, .int .i64 a0_1, .slice A0_2 l0_2.length c0_2] 36 (0, 0)) BK896.out hb); have n5_ := Aside0.mk (blk_below (g := gb912) (o := .cells #[.int .i64 t906, .int .i64 t907, .slice Ao30 t908.length co30] 26 (0, 0)) BK912.out hb); have n6_ := Aside0.mk (blk_below (g := gb918) (o := .cells #[.int .i64 t913, .int .i64 t914, .slice Ao37 t941.length co37] 26 (0, 0)) BK918.out hb); have n7_ := Aside0.mk (blk_below (g := gb928) (o := .cells #[.int .i64 t922, .int .i64 t923, .slice Ao47 t946.length co47] 26 (0, 0)) BK928.out hb); have n8_ := Aside0.mk (blk_below (g := gb962) (o := .cells #[.int .i64 t956, .int .i64 t957, .slice Ao144 t958.length co144] 26 (0, 0)) BK962.out hb); have n9_ := Aside0.mk (below_step (by repeat (first | (with_reducible first | exact HB.out | apply below_alloc | apply pw_below_drewN | apply below_drew1 | refine below_set ?_ GE896.out | refine below_set ?_ GE912.out | refine below_set ?_ GE918.out | refine below_set ?_ GE928.out | refine below_set ?_ GE962.out) | exact HB.out)) hb); clear HO_913002; clear HO_919002; clear HO_929002; clear HO_963002; clear BK896; clear BK912; clear BK918; clear BK928; clear BK962; clear HB; have HO_913002 := n0_; have HO_919002 := n1_; have HO_929002 := n2_; have HO_963002 := n3_; have BK896 := n4_; have BK912 := n5_; have BK918 := n6_; have BK928 := n7_; have BK962 := n8_; have HB := n9_; clear n0_ n1_ n2_ n3_ n4_ n5_ n6_ n7_ n8_ n9_; (try clear hb); (try clear hb2); (try clear hk); (try clear hi)))
                                          go_ret
                                          exact ⟨by first | rfl | (simp [errW_none, errW_some] <;> rfl) | (simp [*, errW_none, errW_some] <;> rfl), by repeat (first | (with_reducible first | exact HB.out | apply below_alloc | apply pw_below_drewN | apply below_drew1 | refine below_set ?_ GE896.out | refine below_set ?_ GE912.out | refine below_set ?_ GE918.out | refine below_set ?_ GE928.out | refine below_set ?_ GE962.out) | exact HB.out)⟩
                                        · rw [if_neg c176] at H
                                          have c176b0 : (t964 == t945) = false := beq_eq_false_iff_ne.mpr c176
                                          have c176b1 : (t964 != t945) = true := bne_iff_ne.mpr c176
                                          obtain rfl := Option.some.inj H
                                          have hnb183 := NB928_896.out
                                          have hnc183 := NB896_928.out
                                          have hnb184 := NB928_912.out
                                          have hnc184 := NB912_928.out
                                          have hnb185 := NB928_918.out
                                          have hnc185 := NB918_928.out
                                          have hnb186 := NB928_962.out
                                          have hnc186 := NB962_928.out
                                          have hcz187_0 : wc.cell? ⟨gb928, 0, none⟩ = some (.int .i64 t922) := (blk_cell BK928.out 0).trans rfl
                                          have hcz187_1 : wc.cell? ⟨gb928, 1, none⟩ = some (.int .i64 t923) := (blk_cell BK928.out 1).trans rfl
                                          have hcz187_2 : wc.cell? ⟨gb928, 2, none⟩ = some (.slice Ao47 t946.length co47) := (blk_cell BK928.out 2).trans rfl
                                          have hfz187_0 := blk_frozen BK928.out 0
                                          have hfz187_1 := blk_frozen BK928.out 1
                                          have hfz187_2 := blk_frozen BK928.out 2
                                          go_wp2_with (first | ((with_reducible refine gate_callee (f := 29) rfl ?_); refine goesL_ (some 116) rfl rfl Try.func29 (by kernel_rfl) rfl #[.agg #[.int .i64 t922, .int .i64 t923, .slice Ao47 t946.length co47], .int .i64 1] rfl (by (try simp only [List.map_toArray, List.map_cons, List.map_nil]); first | done | rfl | (simp only [List.length_drop, List.length_take]; rfl)) ?_; (with_reducible refine (laws_heldField.calls kj121 t922 t923 _ _ t946 1 t964 _ ?side1 ?side2 A168.out).mono ?_); (case side1 => repeat (first | exact (Kd.R_reads' HO_929002.out).2.2 | (with_reducible refine Kd.C_alloc ?_ _) | (with_reducible refine Kd.C_drewN ?_ _) | (with_reducible refine Kd.C_drew ?_))); (case side2 => exact (Kd.R_reads' HO_929002.out).2.1); rintro e w188 ⟨rfl, hb⟩; refine ⟨_, rfl, ?_⟩; have n0_ := Aside0.mk (Kd.R_below (by (with_reducible repeat (first | apply Kd.R_alloc | apply Kd.R_drewN | apply Kd.R_drew)); exact HO_913002.out) hb); have n1_ := Aside0.mk (Kd.R_below (by (with_reducible repeat (first | apply Kd.R_alloc | apply Kd.R_drewN | apply Kd.R_drew)); exact HO_919002.out) hb); have n2_ := Aside0.mk (Kd.R_below (by (with_reducible repeat (first | apply Kd.R_alloc | apply Kd.R_drewN | apply Kd.R_drew)); exact HO_929002.out) hb); have n3_ := Aside0.mk (Kd.R_below (by (with_reducible repeat (first | apply Kd.R_alloc | apply Kd.R_drewN | apply Kd.R_drew)); exact HO_963002.out) hb); have n4_ := Aside0.mk (blk_below (g := gb896) (o := .cells #[.int .i64 a0_0, .int .i64 a0_1, .slice A0_2 l0_2.length c0_2] 36 (0, 0)) BK896.out hb); have n5_ := Aside0.mk (blk_below (g := gb912) (o := .cells #[.int .i64 t906, .int .i64 t907, .slice Ao30 t908.length co30] 26 (0, 0)) BK912.out hb); have n6_ := Aside0.mk (blk_below (g := gb918) (o := .cells #[.int .i64 t913, .int .i64 t914, .slice Ao37 t941.length co37] 26 (0, 0)) BK918.out hb); have n7_ := Aside0.mk (blk_below (g := gb928) (o := .cells #[.int .i64 t922, .int .i64 t923, .slice Ao47 t946.length co47] 26 (0, 0)) BK928.out hb); have n8_ := Aside0.mk (blk_below (g := gb962) (o := .cells #[.int .i64 t956, .int .i64 t957, .slice Ao144 t958.length co144] 26 (0, 0)) BK962.out hb); have n9_ := Aside0.mk (below_step (by repeat (first | (with_reducible first | exact HB.out | apply below_alloc | apply pw_below_drewN | apply below_drew1 | refine below_set ?_ GE896.out | refine below_set ?_ GE912.out | refine below_set ?_ GE918.out | refine below_set ?_ GE928.out | refine below_set ?_ GE962.out) | exact HB.out)) hb); clear HO_913002; clear HO_919002; clear HO_929002; clear HO_963002; clear BK896; clear BK912; clear BK918; clear BK928; clear BK962; clear HB; have HO_913002 := n0_; have HO_919002 := n1_; have HO_929002 := n2_; have HO_963002 := n3_; have BK896 := n4_; have BK912 := n5_; have BK918 := n6_; have BK928 := n7_; have BK962 := n8_; have HB := n9_; clear n0_ n1_ n2_ n3_ n4_ n5_ n6_ n7_ n8_ n9_; (try clear hb); (try clear hb2); (try clear hk); (try clear hi)))
                                          go_ret
                                          exact ⟨by first | rfl | (simp [errW_none, errW_some] <;> rfl) | (simp [*, errW_none, errW_some] <;> rfl), by repeat (first | (with_reducible first | exact HB.out | apply below_alloc | apply pw_below_drewN | apply below_drew1 | refine below_set ?_ GE896.out | refine below_set ?_ GE912.out | refine below_set ?_ GE918.out | refine below_set ?_ GE928.out | refine below_set ?_ GE962.out) | exact HB.out)⟩
                            · rw [if_neg c118] at H
                              have c118b0 : (t947 == t945) = false := beq_eq_false_iff_ne.mpr c118
                              have c118b1 : (t947 != t945) = true := bne_iff_ne.mpr c118
                              obtain rfl := Option.some.inj H
                              have hnb189 := NB928_896.out
                              have hnc189 := NB896_928.out
                              have hnb190 := NB928_912.out
                              have hnc190 := NB912_928.out
                              have hnb191 := NB928_918.out
                              have hnc191 := NB918_928.out
                              have hcz192_0 : wc.cell? ⟨gb928, 0, none⟩ = some (.int .i64 t922) := (blk_cell BK928.out 0).trans rfl
                              have hcz192_1 : wc.cell? ⟨gb928, 1, none⟩ = some (.int .i64 t923) := (blk_cell BK928.out 1).trans rfl
                              have hcz192_2 : wc.cell? ⟨gb928, 2, none⟩ = some (.slice Ao47 t924.length co47) := (blk_cell BK928.out 2).trans rfl
                              have hfz192_0 := blk_frozen BK928.out 0
                              have hfz192_1 := blk_frozen BK928.out 1
                              have hfz192_2 := blk_frozen BK928.out 2
                              go_wp2_with (first | ((with_reducible refine gate_callee (f := 27) rfl ?_); refine goesL_ (some 87) rfl rfl Try.func27 (by kernel_rfl) rfl #[.agg #[.int .i64 t922, .int .i64 t923, .slice Ao47 t924.length co47], .int .i64 1] rfl (by (try simp only [List.map_toArray, List.map_cons, List.map_nil]); first | done | rfl | (simp only [List.length_drop, List.length_take]; rfl)) ?_; (with_reducible refine (laws_markField.calls kj74 t922 t923 (fun k_ => some k_ = (.slice Ao47 t924.length co47 : Value).ownBlock) (.slice Ao47 t924.length co47) t924 1 t945 t946 w _ ?side1 ?side2 A108.out).mono ?_); (case side1 => repeat (first | (with_reducible first | exact HB.out | apply below_alloc | apply pw_below_drewN | apply below_drew1 | refine below_set ?_ GE896.out | refine below_set ?_ GE912.out | refine below_set ?_ GE918.out | refine below_set ?_ GE928.out) | exact HB.out)); (case side2 => exact Kd.R_tight rfl HO_929002.out); rintro e w193 ⟨rfl, hy0, hb, hkp⟩; refine ⟨_, rfl, ?_⟩; have n0_ := Aside0.mk (Kd.R_mono (ok' := fun k_ => some k_ ≠ (.slice Ao37 t941.length co37 : Value).ownBlock ∧ some k_ ≠ (.slice Ao47 t924.length co47 : Value).ownBlock) (Kd.R_keptB (HO_913002.out) hkp (fun k_ hk_ hs_ => (hk_.2) hs_)) (fun k_ hk_ => ⟨hk_.1.1, hk_.1.2⟩)); have n1_ := Aside0.mk (Kd.R_mono (ok' := fun k_ => some k_ ≠ (.slice Ao30 t908.length co30 : Value).ownBlock ∧ some k_ ≠ (.slice Ao47 t924.length co47 : Value).ownBlock) (Kd.R_keptB (HO_919002.out) hkp (fun k_ hk_ hs_ => (hk_.2) hs_)) (fun k_ hk_ => ⟨hk_.1.1, hk_.1.2⟩)); have n2_ := Aside0.mk (Kd.R_reok rfl hy0 (fun k_ e_ => HO_929002.out.1 k_ e_)); have n3_ := Aside0.mk (blk_kept BK896.out hkp (fun hs_ => (fun e_ => (Kd.R_ne HO_929002.out BK896.out (by decide)) e_) hs_)); have n4_ := Aside0.mk (blk_kept BK912.out hkp (fun hs_ => (fun e_ => (Kd.R_ne HO_929002.out BK912.out (by decide)) e_) hs_)); have n5_ := Aside0.mk (blk_kept BK918.out hkp (fun hs_ => (fun e_ => (Kd.R_ne HO_929002.out BK918.out (by decide)) e_) hs_)); have n6_ := Aside0.mk (blk_kept BK928.out hkp (fun hs_ => (fun e_ => (Kd.R_ne HO_929002.out BK928.out (by decide)) e_) hs_)); have n7_ := Aside0.mk (hb); clear HO_913002; clear HO_919002; clear HO_929002; clear BK896; clear BK912; clear BK918; clear BK928; clear HB; have HO_913002 := n0_; have HO_919002 := n1_; have HO_929002 := n2_; have BK896 := n3_; have BK912 := n4_; have BK918 := n5_; have BK928 := n6_; have HB := n7_; clear n0_ n1_ n2_ n3_ n4_ n5_ n6_ n7_; (try clear hb); (try clear hkp); (try clear hy0); have hcz194_0 : w193.cell? ⟨gb928, 0, none⟩ = some (.int .i64 t922) := (blk_cell BK928.out 0).trans rfl; have hcz194_1 : w193.cell? ⟨gb928, 1, none⟩ = some (.int .i64 t923) := (blk_cell BK928.out 1).trans rfl; have hcz194_2 : w193.cell? ⟨gb928, 2, none⟩ = some (.slice Ao47 t924.length co47) := (blk_cell BK928.out 2).trans rfl; have hfz194_0 := blk_frozen BK928.out 0; have hfz194_1 := blk_frozen BK928.out 1; have hfz194_2 := blk_frozen BK928.out 2) | ((with_reducible refine gate_callee (f := 29) rfl ?_); refine goesL_ (some 90) rfl rfl Try.func29 (by kernel_rfl) rfl #[.agg #[.int .i64 t922, .int .i64 t923, .slice Ao47 t946.length co47], .int .i64 1] rfl (by (try simp only [List.map_toArray, List.map_cons, List.map_nil]); first | done | (rw [show t946.length = t924.length from (Kd.R_reads' HO_929002.out).1.symm] <;> rfl) | rfl | (simp only [List.length_drop, List.length_take]; rfl)) ?_; (with_reducible refine (laws_heldField.calls kj74 t922 t923 _ _ t946 1 t947 _ ?side1 ?side2 A109.out).mono ?_); (case side1 => repeat (first | exact (Kd.R_reads' HO_929002.out).2.2 | (with_reducible refine Kd.C_alloc ?_ _) | (with_reducible refine Kd.C_drewN ?_ _) | (with_reducible refine Kd.C_drew ?_))); (case side2 => rw [show t946.length = t924.length from (Kd.R_reads' HO_929002.out).1.symm]; exact (Kd.R_reads' HO_929002.out).2.1); rintro e w195 ⟨rfl, hb⟩; refine ⟨_, rfl, ?_⟩; have n0_ := Aside0.mk (Kd.R_below (by (with_reducible repeat (first | apply Kd.R_alloc | apply Kd.R_drewN | apply Kd.R_drew)); exact HO_913002.out) hb); have n1_ := Aside0.mk (Kd.R_below (by (with_reducible repeat (first | apply Kd.R_alloc | apply Kd.R_drewN | apply Kd.R_drew)); exact HO_919002.out) hb); have n2_ := Aside0.mk (Kd.R_below (by (with_reducible repeat (first | apply Kd.R_alloc | apply Kd.R_drewN | apply Kd.R_drew)); exact HO_929002.out) hb); have n3_ := Aside0.mk (blk_below (g := gb896) (o := .cells #[.int .i64 a0_0, .int .i64 a0_1, .slice A0_2 l0_2.length c0_2] 36 (0, 0)) BK896.out hb); have n4_ := Aside0.mk (blk_below (g := gb912) (o := .cells #[.int .i64 t906, .int .i64 t907, .slice Ao30 t908.length co30] 26 (0, 0)) BK912.out hb); have n5_ := Aside0.mk (blk_below (g := gb918) (o := .cells #[.int .i64 t913, .int .i64 t914, .slice Ao37 t941.length co37] 26 (0, 0)) BK918.out hb); have n6_ := Aside0.mk (blk_below (g := gb928) (o := .cells #[.int .i64 t922, .int .i64 t923, .slice Ao47 t924.length co47] 26 (0, 0)) BK928.out hb); have n7_ := Aside0.mk (below_step (by repeat (first | (with_reducible first | exact HB.out | apply below_alloc | apply pw_below_drewN | apply below_drew1 | refine below_set ?_ GE896.out | refine below_set ?_ GE912.out | refine below_set ?_ GE918.out | refine below_set ?_ GE928.out) | exact HB.out)) hb); clear HO_913002; clear HO_919002; clear HO_929002; clear BK896; clear BK912; clear BK918; clear BK928; clear HB; have HO_913002 := n0_; have HO_919002 := n1_; have HO_929002 := n2_; have BK896 := n3_; have BK912 := n4_; have BK918 := n5_; have BK928 := n6_; have HB := n7_; clear n0_ n1_ n2_ n3_ n4_ n5_ n6_ n7_; (try clear hb); (try clear hb2); (try clear hk); (try clear hi)))
                              go_ret
                              exact ⟨by first | rfl | (simp [errW_none, errW_some] <;> rfl) | (simp [*, errW_none, errW_some] <;> rfl), by repeat (first | (with_reducible first | exact HB.out | apply below_alloc | apply pw_below_drewN | apply below_drew1 | refine below_set ?_ GE896.out | refine below_set ?_ GE912.out | refine below_set ?_ GE918.out | refine below_set ?_ GE928.out) | exact HB.out)⟩
                · replace c72 := Bool.eq_false_iff.mpr c72
                  subst c72
                  have H1 : (some false) = some r := by rw [if_neg (show ¬ (false = true) by decide)] at H; exact H
                  exact absurd ((Option.some.inj H1).trans hrt_) (by decide)
              · replace c69 := Bool.eq_false_iff.mpr c69
                subst c69
                have H1 : (some false) = some r := by rw [if_neg (show ¬ (false = true) by decide)] at H; exact H
                exact absurd ((Option.some.inj H1).trans hrt_) (by decide)
end Go.Proofs.Ytdmkbfjipgaloaa.P
