-- Made by pp.py of this session out of the kit's print and of contracts proved by hand; Lean checks it.
import Derived.Test.YtlnlabndaikbnaaPx0
import Derived.Test.YtlnlabndaikbnaaPx2
import Derived.Test.YtlnlabndaikbnaaPx4
import Derived.Test.YtlnlabndaikbnaaPx9
import Derived.Test.YtlnlabndaikbnaaPx10
namespace Go.Proofs.Ytlnlabndaikbnaa.P
open Go.RowKit Go.Proofs.YtlnlabndaikbnaaW.PrintWords Go.Proofs.YtlnlabndaikbnaaW.PrintLast Go.Proofs.YtlnlabndaikbnaaW.PrintMore
attribute [local go_sem] max2_int min2_int max_two min_two max_three min_three max_four min_four   -- for this text's walks alone
set_option linter.unusedVariables false
set_option linter.unusedSimpArgs false

/-! ### laws_FnExactNewConsole: function 3 -/
mutual
def laws_FnExactNewConsole.j0 : Nat → List (S42) → Bool → List (S40) → Bool → Bool → List (S40) → ByteArray → ByteArray → Int → List (S40) → ByteArray → ByteArray → Int → Option (Bool)
 | 0, _, _, _, _, _, _, _, _, _, _, _, _, _ => none
 | k + 1, x0, x5, x6, x8, x40, x206000, x206001, x206002, x206003, x217000, x217001, x217002, x217003 => if x40 = true then (some false) else ((laws_toWarningS.f k x0).bind fun t218 => ((laws_eqWarningS.f k x6 t218).bind fun t221 => (if t221 = true then ((laws_markWarningS.f k x6 1).bind fun bt222 => (if bt222.1 < 0 then (laws_FnExactNewConsole.j1 k x0 x5 true x206000 x206001 x206002 x206003 x217000 x217001 x217002 x217003) else ((laws_eqConsole.f k x217000 x217001 x217002 x217003 x206000 x206001 x206002 x206003).bind fun t224 => (if t224 = true then (laws_FnExactNewConsole.j1 k x0 x5 (x8 != x5) x206000 x206001 x206002 x206003 x217000 x217001 x217002 x217003) else (laws_FnExactNewConsole.j1 k x0 x5 true x206000 x206001 x206002 x206003 x217000 x217001 x217002 x217003))))) else (some false))))
def laws_FnExactNewConsole.j1 : Nat → List (S42) → Bool → Bool → List (S40) → ByteArray → ByteArray → Int → List (S40) → ByteArray → ByteArray → Int → Option (Bool)
 | 0, _, _, _, _, _, _, _, _, _, _, _ => none
 | k + 1, x0, x5, x61, x206000, x206001, x206002, x206003, x217000, x217001, x217002, x217003 => if x61 = true then (some false) else ((laws_markConsole.f k x217000 x217001 x217002 x217003 1).bind fun bt225 => ((laws_heldConsole.f k bt225.2 x217001 x217002 x217003 1).bind fun t227 => (if t227 < 0 then (some false) else (if t227 = bt225.1 then ((laws_toWarningS.f k x0).bind fun t228 => ((impl_NewConsole.f k t228).bind fun bt231 => ((laws_eqConsole.f k bt231.1 bt231.2.1 bt231.2.2.1 bt231.2.2.2.1 x206000 x206001 x206002 x206003).bind fun t239 => (if t239 = true then (laws_FnExactNewConsole.j2 k bt225.1 (bt231.2.2.2.2 != x5) bt225.2 x217001 x217002 x217003) else (laws_FnExactNewConsole.j2 k bt225.1 true bt225.2 x217001 x217002 x217003))))) else (some false)))))
def laws_FnExactNewConsole.j2 : Nat → Int → Bool → List (S40) → ByteArray → ByteArray → Int → Option (Bool)
 | 0, _, _, _, _, _, _ => none
 | k + 1, x10, x87, x217000, x217001, x217002, x217003 => if x87 = true then (some false) else ((laws_heldConsole.f k x217000 x217001 x217002 x217003 1).bind fun t240 => (if t240 < 0 then (some false) else (if t240 = x10 then (some true) else (some false))))
end
def laws_FnExactNewConsole.f (k : Nat) (l0 : List (S42)) : Option (Bool) := (laws_szWarningS.f l0 1048576).bind fun t194 => (if t194 < 0 then (some true) else ((laws_toWarningS.f k l0).bind fun t195 => ((spec_NewConsole.f k t195).bind fun bt198 => ((laws_toWarningS.f k l0).bind fun t206 => ((impl_NewConsole.f k t206).bind fun bt209 => ((laws_eqConsole.f k bt209.1 bt209.2.1 bt209.2.2.1 bt209.2.2.2.1 bt198.1 bt198.2.1 bt198.2.2.1 bt198.2.2.2.1).bind fun t217 => (if t217 = true then (laws_FnExactNewConsole.j0 k l0 bt198.2.2.2.2 t206 bt209.2.2.2.2 (bt209.2.2.2.2 != bt198.2.2.2.2) bt198.1 bt198.2.1 bt198.2.2.1 bt198.2.2.2.1 bt209.1 bt209.2.1 bt209.2.2.1 bt209.2.2.2.1) else (laws_FnExactNewConsole.j0 k l0 bt198.2.2.2.2 t206 bt209.2.2.2.2 true bt198.1 bt198.2.1 bt198.2.2.1 bt198.2.2.2.1 bt209.1 bt209.2.1 bt209.2.2.1 bt209.2.2.2.1))))))))
theorem laws_FnExactNewConsole.mono_l : ∀ k, (∀ y0 y1 y2 y3 y4 y5 y6 y7 y8 y9 y10 y11 y12, LeO (laws_FnExactNewConsole.j0 k y0 y1 y2 y3 y4 y5 y6 y7 y8 y9 y10 y11 y12) (laws_FnExactNewConsole.j0 (k + 1) y0 y1 y2 y3 y4 y5 y6 y7 y8 y9 y10 y11 y12)) ∧ (∀ y0 y1 y2 y3 y4 y5 y6 y7 y8 y9 y10, LeO (laws_FnExactNewConsole.j1 k y0 y1 y2 y3 y4 y5 y6 y7 y8 y9 y10) (laws_FnExactNewConsole.j1 (k + 1) y0 y1 y2 y3 y4 y5 y6 y7 y8 y9 y10)) ∧ (∀ y0 y1 y2 y3 y4 y5, LeO (laws_FnExactNewConsole.j2 k y0 y1 y2 y3 y4 y5) (laws_FnExactNewConsole.j2 (k + 1) y0 y1 y2 y3 y4 y5))
 | 0 => ⟨fun _ _ _ _ _ _ _ _ _ _ _ _ _ r h => by simp [laws_FnExactNewConsole.j0] at h, fun _ _ _ _ _ _ _ _ _ _ _ r h => by simp [laws_FnExactNewConsole.j1] at h, fun _ _ _ _ _ _ r h => by simp [laws_FnExactNewConsole.j2] at h⟩
 | k + 1 => by
  obtain ⟨ih0, ih1, ih2⟩ := laws_FnExactNewConsole.mono_l k
  refine ⟨?_, ?_, ?_⟩
  ·
   intro y0 y1 y2 y3 y4 y5 y6 y7 y8 y9 y10 y11 y12
   unfold laws_FnExactNewConsole.j0
   repeat' first
   | (with_reducible exact ih0 _ _ _ _ _ _ _ _ _ _ _ _ _)
   | (with_reducible exact ih1 _ _ _ _ _ _ _ _ _ _ _)
   | (with_reducible exact ih2 _ _ _ _ _ _)
   | (with_reducible exact impl_NewConsole.mono _ _)
   | (with_reducible exact laws_eqConsole.mono _ _ _ _ _ _ _ _ _)
   | (with_reducible exact laws_eqWarningS.mono _ _ _)
   | (with_reducible exact laws_heldConsole.mono _ _ _ _ _ _)
   | (with_reducible exact laws_markConsole.mono _ _ _ _ _ _)
   | (with_reducible exact laws_markWarningS.mono _ _ _)
   | (with_reducible exact laws_toWarningS.mono _ _)
   | (with_reducible exact spec_NewConsole.mono _ _)
   | (with_reducible exact LeO.refl _)
   | (with_reducible exact LeO.none _)
   | (with_reducible refine LeO.ite ?_ ?_)
   | (with_reducible refine LeO.bind ?_ (fun _ => ?_))
   | exact ih0 _ _ _ _ _ _ _ _ _ _ _ _ _
   | exact ih1 _ _ _ _ _ _ _ _ _ _ _
   | exact ih2 _ _ _ _ _ _
   | exact impl_NewConsole.mono _ _
   | exact laws_eqConsole.mono _ _ _ _ _ _ _ _ _
   | exact laws_eqWarningS.mono _ _ _
   | exact laws_heldConsole.mono _ _ _ _ _ _
   | exact laws_markConsole.mono _ _ _ _ _ _
   | exact laws_markWarningS.mono _ _ _
   | exact laws_toWarningS.mono _ _
   | exact spec_NewConsole.mono _ _
   | exact LeO.none _
   | refine LeO.ite ?_ ?_
   | refine LeO.bind ?_ (fun _ => ?_)
  ·
   intro y0 y1 y2 y3 y4 y5 y6 y7 y8 y9 y10
   unfold laws_FnExactNewConsole.j1
   repeat' first
   | (with_reducible exact ih0 _ _ _ _ _ _ _ _ _ _ _ _ _)
   | (with_reducible exact ih1 _ _ _ _ _ _ _ _ _ _ _)
   | (with_reducible exact ih2 _ _ _ _ _ _)
   | (with_reducible exact impl_NewConsole.mono _ _)
   | (with_reducible exact laws_eqConsole.mono _ _ _ _ _ _ _ _ _)
   | (with_reducible exact laws_eqWarningS.mono _ _ _)
   | (with_reducible exact laws_heldConsole.mono _ _ _ _ _ _)
   | (with_reducible exact laws_markConsole.mono _ _ _ _ _ _)
   | (with_reducible exact laws_markWarningS.mono _ _ _)
   | (with_reducible exact laws_toWarningS.mono _ _)
   | (with_reducible exact spec_NewConsole.mono _ _)
   | (with_reducible exact LeO.refl _)
   | (with_reducible exact LeO.none _)
   | (with_reducible refine LeO.ite ?_ ?_)
   | (with_reducible refine LeO.bind ?_ (fun _ => ?_))
   | exact ih0 _ _ _ _ _ _ _ _ _ _ _ _ _
   | exact ih1 _ _ _ _ _ _ _ _ _ _ _
   | exact ih2 _ _ _ _ _ _
   | exact impl_NewConsole.mono _ _
   | exact laws_eqConsole.mono _ _ _ _ _ _ _ _ _
   | exact laws_eqWarningS.mono _ _ _
   | exact laws_heldConsole.mono _ _ _ _ _ _
   | exact laws_markConsole.mono _ _ _ _ _ _
   | exact laws_markWarningS.mono _ _ _
   | exact laws_toWarningS.mono _ _
   | exact spec_NewConsole.mono _ _
   | exact LeO.none _
   | refine LeO.ite ?_ ?_
   | refine LeO.bind ?_ (fun _ => ?_)
  ·
   intro y0 y1 y2 y3 y4 y5
   unfold laws_FnExactNewConsole.j2
   repeat' first
   | (with_reducible exact ih0 _ _ _ _ _ _ _ _ _ _ _ _ _)
   | (with_reducible exact ih1 _ _ _ _ _ _ _ _ _ _ _)
   | (with_reducible exact ih2 _ _ _ _ _ _)
   | (with_reducible exact impl_NewConsole.mono _ _)
   | (with_reducible exact laws_eqConsole.mono _ _ _ _ _ _ _ _ _)
   | (with_reducible exact laws_eqWarningS.mono _ _ _)
   | (with_reducible exact laws_heldConsole.mono _ _ _ _ _ _)
   | (with_reducible exact laws_markConsole.mono _ _ _ _ _ _)
   | (with_reducible exact laws_markWarningS.mono _ _ _)
   | (with_reducible exact laws_toWarningS.mono _ _)
   | (with_reducible exact spec_NewConsole.mono _ _)
   | (with_reducible exact LeO.refl _)
   | (with_reducible exact LeO.none _)
   | (with_reducible refine LeO.ite ?_ ?_)
   | (with_reducible refine LeO.bind ?_ (fun _ => ?_))
   | exact ih0 _ _ _ _ _ _ _ _ _ _ _ _ _
   | exact ih1 _ _ _ _ _ _ _ _ _ _ _
   | exact ih2 _ _ _ _ _ _
   | exact impl_NewConsole.mono _ _
   | exact laws_eqConsole.mono _ _ _ _ _ _ _ _ _
   | exact laws_eqWarningS.mono _ _ _
   | exact laws_heldConsole.mono _ _ _ _ _ _
   | exact laws_markConsole.mono _ _ _ _ _ _
   | exact laws_markWarningS.mono _ _ _
   | exact laws_toWarningS.mono _ _
   | exact spec_NewConsole.mono _ _
   | exact LeO.none _
   | refine LeO.ite ?_ ?_
   | refine LeO.bind ?_ (fun _ => ?_)
theorem laws_FnExactNewConsole.mono : ∀ a0 k, LeO (laws_FnExactNewConsole.f k a0) (laws_FnExactNewConsole.f (k + 1) a0) := by
 intro a0 k
 obtain ⟨ih0, ih1, ih2⟩ := laws_FnExactNewConsole.mono_l k
 unfold laws_FnExactNewConsole.f
 repeat' first
   | (with_reducible exact ih0 _ _ _ _ _ _ _ _ _ _ _ _ _)
   | (with_reducible exact ih1 _ _ _ _ _ _ _ _ _ _ _)
   | (with_reducible exact ih2 _ _ _ _ _ _)
   | (with_reducible exact impl_NewConsole.mono _ _)
   | (with_reducible exact laws_eqConsole.mono _ _ _ _ _ _ _ _ _)
   | (with_reducible exact laws_eqWarningS.mono _ _ _)
   | (with_reducible exact laws_heldConsole.mono _ _ _ _ _ _)
   | (with_reducible exact laws_markConsole.mono _ _ _ _ _ _)
   | (with_reducible exact laws_markWarningS.mono _ _ _)
   | (with_reducible exact laws_toWarningS.mono _ _)
   | (with_reducible exact spec_NewConsole.mono _ _)
   | (with_reducible exact LeO.refl _)
   | (with_reducible exact LeO.none _)
   | (with_reducible refine LeO.ite ?_ ?_)
   | (with_reducible refine LeO.bind ?_ (fun _ => ?_))
   | exact ih0 _ _ _ _ _ _ _ _ _ _ _ _ _
   | exact ih1 _ _ _ _ _ _ _ _ _ _ _
   | exact ih2 _ _ _ _ _ _
   | exact impl_NewConsole.mono _ _
   | exact laws_eqConsole.mono _ _ _ _ _ _ _ _ _
   | exact laws_eqWarningS.mono _ _ _
   | exact laws_heldConsole.mono _ _ _ _ _ _
   | exact laws_markConsole.mono _ _ _ _ _ _
   | exact laws_markWarningS.mono _ _ _
   | exact laws_toWarningS.mono _ _
   | exact spec_NewConsole.mono _ _
   | exact LeO.none _
   | refine LeO.ite ?_ ?_
   | refine LeO.bind ?_ (fun _ => ?_)
set_option maxHeartbeats 8000000 in
set_option maxRecDepth 100000 in
theorem laws_FnExactNewConsole.calls (k : Nat) (A0 : Option Addr) (c0 : Nat) (l0 : List (S42)) (r : Bool) (w : World) (hr0 : Kd.C k42 w A0 l0.length l0) (hc0 : l0.length ≤ c0) (hrt_ : r = true) (h : laws_FnExactNewConsole.f k l0 = some r) :
  Calls Try.prog 3 #[.slice A0 l0.length c0] w fun e w' => e = .returned (.bool r) ∧ Below w.heap.size w w' := by
 have hu28 := Try.underlying28
 have HR0 := Aside0.mk hr0
 have HC0 := Aside0.mk hc0
 clear hr0 hc0
 have HB := Aside0.mk (Below.refl w.heap.size w)
 have H : ((laws_szWarningS.f l0 1048576).bind fun t194 => (if t194 < 0 then (some true) else ((laws_toWarningS.f k l0).bind fun t195 => ((spec_NewConsole.f k t195).bind fun bt198 => ((laws_toWarningS.f k l0).bind fun t206 => ((impl_NewConsole.f k t206).bind fun bt209 => ((laws_eqConsole.f k bt209.1 bt209.2.1 bt209.2.2.1 bt209.2.2.2.1 bt198.1 bt198.2.1 bt198.2.2.1 bt198.2.2.2.1).bind fun t217 => (if t217 = true then (laws_FnExactNewConsole.j0 k l0 bt198.2.2.2.2 t206 bt209.2.2.2.2 (bt209.2.2.2.2 != bt198.2.2.2.2) bt198.1 bt198.2.1 bt198.2.2.1 bt198.2.2.2.1 bt209.1 bt209.2.1 bt209.2.2.1 bt209.2.2.2.1) else (laws_FnExactNewConsole.j0 k l0 bt198.2.2.2.2 t206 bt209.2.2.2.2 true bt198.1 bt198.2.1 bt198.2.2.1 bt198.2.2.2.1 bt209.1 bt209.2.1 bt209.2.2.1 bt209.2.2.2.1))))))))) = some r := h
 clear h
 replace H := Option.bind_eq_some_iff.mp H
 obtain ⟨t194, A20, H⟩ := H
 replace H : (if t194 < 0 then (some true) else ((laws_toWarningS.f k l0).bind fun t195 => ((spec_NewConsole.f k t195).bind fun bt198 => ((laws_toWarningS.f k l0).bind fun t206 => ((impl_NewConsole.f k t206).bind fun bt209 => ((laws_eqConsole.f k bt209.1 bt209.2.1 bt209.2.2.1 bt209.2.2.2.1 bt198.1 bt198.2.1 bt198.2.2.1 bt198.2.2.2.1).bind fun t217 => (if t217 = true then (laws_FnExactNewConsole.j0 k l0 bt198.2.2.2.2 t206 bt209.2.2.2.2 (bt209.2.2.2.2 != bt198.2.2.2.2) bt198.1 bt198.2.1 bt198.2.2.1 bt198.2.2.2.1 bt209.1 bt209.2.1 bt209.2.2.1 bt209.2.2.2.1) else (laws_FnExactNewConsole.j0 k l0 bt198.2.2.2.2 t206 bt209.2.2.2.2 true bt198.1 bt198.2.1 bt198.2.2.1 bt198.2.2.2.1 bt209.1 bt209.2.1 bt209.2.2.1 bt209.2.2.2.1)))))))) = some r := H
 have A2 := Aside0.mk A20
 clear A20
 by_cases c3 : t194 < 0
 ·
  rw [if_pos c3] at H
  have c3b0 : decide (t194 < 0) = true := decide_eq_true c3
  clear c3
  obtain rfl := Option.some.inj H
  go_enter Try.func3, Try.ntmps3
  go_wp2_with (first | ((with_reducible refine gate_callee (f := 4) rfl ?_); refine goesL_ (some 16) rfl rfl Try.func4 (by kernel_rfl) rfl #[.slice A0 l0.length c0, .int .i64 1048576] rfl (by (try simp only [List.map_toArray, List.map_cons, List.map_nil]); first | done | rfl | (simp only [List.length_drop, List.length_take]; rfl)) ?_; (with_reducible refine (laws_szWarningS.calls _ _ l0 1048576 t194 _ ?side1 ?side2 A2.out).mono ?_); (case side1 => repeat (first | exact HR0.out | (with_reducible refine Kd.C_alloc ?_ _) | (with_reducible refine Kd.C_drewN ?_ _) | (with_reducible refine Kd.C_drew ?_))); (case side2 => exact HC0.out); rintro e w' ⟨rfl, ⟨nd, rfl⟩⟩; refine ⟨_, rfl, ?_⟩))
  go_ret
  exact ⟨by first | rfl | (simp [errW_none, errW_some] <;> rfl) | (simp [*, errW_none, errW_some] <;> rfl), by repeat (first | (with_reducible first | exact HB.out | apply below_alloc | apply pw_below_drewN | apply below_drew1) | exact HB.out)⟩
 ·
  rw [if_neg c3] at H
  have c3b0 : decide (t194 < 0) = false := decide_eq_false c3
  clear c3
  replace H := Option.bind_eq_some_iff.mp H
  obtain ⟨t195, A40, H⟩ := H
  replace H : ((spec_NewConsole.f k t195).bind fun bt198 => ((laws_toWarningS.f k l0).bind fun t206 => ((impl_NewConsole.f k t206).bind fun bt209 => ((laws_eqConsole.f k bt209.1 bt209.2.1 bt209.2.2.1 bt209.2.2.2.1 bt198.1 bt198.2.1 bt198.2.2.1 bt198.2.2.2.1).bind fun t217 => (if t217 = true then (laws_FnExactNewConsole.j0 k l0 bt198.2.2.2.2 t206 bt209.2.2.2.2 (bt209.2.2.2.2 != bt198.2.2.2.2) bt198.1 bt198.2.1 bt198.2.2.1 bt198.2.2.2.1 bt209.1 bt209.2.1 bt209.2.2.1 bt209.2.2.2.1) else (laws_FnExactNewConsole.j0 k l0 bt198.2.2.2.2 t206 bt209.2.2.2.2 true bt198.1 bt198.2.1 bt198.2.2.1 bt198.2.2.2.1 bt209.1 bt209.2.1 bt209.2.2.1 bt209.2.2.2.1)))))) = some r := H
  have A4 := Aside0.mk A40
  clear A40
  replace H := Option.bind_eq_some_iff.mp H
  obtain ⟨⟨t198, t201, t202, t203, t204⟩, A50, H⟩ := H
  replace H : ((laws_toWarningS.f k l0).bind fun t206 => ((impl_NewConsole.f k t206).bind fun bt209 => ((laws_eqConsole.f k bt209.1 bt209.2.1 bt209.2.2.1 bt209.2.2.2.1 t198 t201 t202 t203).bind fun t217 => (if t217 = true then (laws_FnExactNewConsole.j0 k l0 t204 t206 bt209.2.2.2.2 (bt209.2.2.2.2 != t204) t198 t201 t202 t203 bt209.1 bt209.2.1 bt209.2.2.1 bt209.2.2.2.1) else (laws_FnExactNewConsole.j0 k l0 t204 t206 bt209.2.2.2.2 true t198 t201 t202 t203 bt209.1 bt209.2.1 bt209.2.2.1 bt209.2.2.2.1))))) = some r := H
  have A5 := Aside0.mk A50
  clear A50
  replace H := Option.bind_eq_some_iff.mp H
  obtain ⟨t206, A60, H⟩ := H
  replace H : ((impl_NewConsole.f k t206).bind fun bt209 => ((laws_eqConsole.f k bt209.1 bt209.2.1 bt209.2.2.1 bt209.2.2.2.1 t198 t201 t202 t203).bind fun t217 => (if t217 = true then (laws_FnExactNewConsole.j0 k l0 t204 t206 bt209.2.2.2.2 (bt209.2.2.2.2 != t204) t198 t201 t202 t203 bt209.1 bt209.2.1 bt209.2.2.1 bt209.2.2.2.1) else (laws_FnExactNewConsole.j0 k l0 t204 t206 bt209.2.2.2.2 true t198 t201 t202 t203 bt209.1 bt209.2.1 bt209.2.2.1 bt209.2.2.2.1)))) = some r := H
  have A6 := Aside0.mk A60
  clear A60
  replace H := Option.bind_eq_some_iff.mp H
  obtain ⟨⟨t209, t212, t213, t214, t215⟩, A70, H⟩ := H
  replace H : ((laws_eqConsole.f k t209 t212 t213 t214 t198 t201 t202 t203).bind fun t217 => (if t217 = true then (laws_FnExactNewConsole.j0 k l0 t204 t206 t215 (t215 != t204) t198 t201 t202 t203 t209 t212 t213 t214) else (laws_FnExactNewConsole.j0 k l0 t204 t206 t215 true t198 t201 t202 t203 t209 t212 t213 t214))) = some r := H
  have A7 := Aside0.mk A70
  clear A70
  have HC8 := Aside0.mk H
  clear H
  go_enter Try.func3, Try.ntmps3
  go_upto_region 8 with (first | ((with_reducible refine gate_callee (f := 4) rfl ?_); refine goesL_ (some 16) rfl rfl Try.func4 (by kernel_rfl) rfl #[.slice A0 l0.length c0, .int .i64 1048576] rfl (by (try simp only [List.map_toArray, List.map_cons, List.map_nil]); first | done | rfl | (simp only [List.length_drop, List.length_take]; rfl)) ?_; (with_reducible refine (laws_szWarningS.calls _ _ l0 1048576 t194 _ ?side1 ?side2 A2.out).mono ?_); (case side1 => repeat (first | exact HR0.out | (with_reducible refine Kd.C_alloc ?_ _) | (with_reducible refine Kd.C_drewN ?_ _) | (with_reducible refine Kd.C_drew ?_))); (case side2 => exact HC0.out); rintro e w' ⟨rfl, ⟨nd, rfl⟩⟩; refine ⟨_, rfl, ?_⟩) | ((with_reducible refine gate_callee (f := 6) rfl ?_); refine goesL_ (some 21) rfl rfl Try.func6 (by kernel_rfl) rfl #[.slice A0 l0.length c0] rfl (by (try simp only [List.map_toArray, List.map_cons, List.map_nil]); first | done | rfl | (simp only [List.length_drop, List.length_take]; rfl)) ?_; (with_reducible refine (laws_toWarningS.calls k _ _ l0 t195 _ ?side1 ?side2 A4.out).mono ?_); (case side1 => repeat (first | exact HR0.out | (with_reducible refine Kd.C_alloc ?_ _) | (with_reducible refine Kd.C_drewN ?_ _) | (with_reducible refine Kd.C_drew ?_))); (case side2 => exact HC0.out); rintro e w9 ⟨v196, rfl, ho0, hb⟩; refine ⟨_, rfl, ?_⟩; have n0_ := Aside0.mk (Kd.R_lower ho0 (below_size (by repeat (first | (with_reducible first | exact HB.out | apply below_alloc | apply pw_below_drewN | apply below_drew1) | exact HB.out)))); have n1_ := Aside0.mk (below_step (by repeat (first | (with_reducible first | exact HB.out | apply below_alloc | apply pw_below_drewN | apply below_drew1) | exact HB.out)) hb); clear HB; have HO197 := n0_; have HB := n1_; clear n0_ n1_; (try clear hb); (try clear hb2); (try clear hk); (try clear hi); (try clear ho0); obtain ⟨Ao10, co10, eo10⟩ := Kd.R_slice HO197.out; subst eo10) | ((with_reducible refine gate_callee (f := 5) rfl ?_); refine goesL_ (some 22) rfl rfl Try.func5 (by kernel_rfl) rfl #[.slice Ao10 t195.length co10] rfl (by (try simp only [List.map_toArray, List.map_cons, List.map_nil]); first | done | rfl | (simp only [List.length_drop, List.length_take]; rfl)) ?_; (with_reducible refine (spec_NewConsole.calls k _ _ t195 t198 t201 t202 t203 t204 _ ?side1 ?side2 A5.out).mono ?_); (case side1 => repeat (first | exact (Kd.R_reads' HO197.out).2.2 | (with_reducible refine Kd.C_alloc ?_ _) | (with_reducible refine Kd.C_drewN ?_ _) | (with_reducible refine Kd.C_drew ?_))); (case side2 => exact (Kd.R_reads' HO197.out).2.1); rintro e w11 ⟨v199, rfl, ho0, hb⟩; refine ⟨_, rfl, ?_⟩; have n0_ := Aside0.mk (Kd.R_elder' (by (with_reducible repeat (first | apply Kd.R_alloc | apply Kd.R_drewN | apply Kd.R_drew)); exact HO197.out) (Kd.R_base ho0) hb); have n1_ := Aside0.mk (Kd.R_lower (Kd.R_new' ho0 (Kd.R_lt (by (with_reducible repeat (first | apply Kd.R_alloc | apply Kd.R_drewN | apply Kd.R_drew)); exact HO197.out))) (below_size (by repeat (first | (with_reducible first | exact HB.out | apply below_alloc | apply pw_below_drewN | apply below_drew1) | exact HB.out)))); have n2_ := Aside0.mk (below_step (by repeat (first | (with_reducible first | exact HB.out | apply below_alloc | apply pw_below_drewN | apply below_drew1) | exact HB.out)) hb); clear HO197; clear HB; have HO197 := n0_; have HO200 := n1_; have HB := n2_; clear n0_ n1_ n2_; (try clear hb); (try clear hb2); (try clear hk); (try clear hi); (try clear ho0)) | ((with_reducible refine gate_dst (N := 4) rfl ?_); refine box_event ?hg (N := 4) ?hd (cs := #[.slice none 0 0, .string (⟨#[]⟩ : ByteArray), .string (⟨#[]⟩ : ByteArray), .int .i64 0]) (t := 28) ?hr ?_; (case hd => rfl); (case hg => rfl); (case hr => first | (go_simp; done) | (go_simp; rfl)); intro gb205 hg w12 hbox hb; have n0_ := Aside0.mk (Kd.R_below (by (with_reducible repeat (first | apply Kd.R_alloc | apply Kd.R_drewN | apply Kd.R_drew)); exact HO197.out) hb); have n1_ := Aside0.mk (Kd.R_below (by (with_reducible repeat (first | apply Kd.R_alloc | apply Kd.R_drewN | apply Kd.R_drew)); exact HO200.out) hb); have n2_ := Aside0.mk (below_step (by repeat (first | (with_reducible first | exact HB.out | apply below_alloc | apply pw_below_drewN | apply below_drew1) | exact HB.out)) hb); have n3_ := Aside0.mk (hbox); have n4_ := Aside0.mk ((by rw [hg]; exact (below_size (by repeat (first | (with_reducible first | exact HB.out | apply below_alloc | apply pw_below_drewN | apply below_drew1) | exact HB.out))) : w.heap.size ≤ gb205)); have n5_ := Aside0.mk ((by rw [hg]; exact (below_size (by repeat (first | (with_reducible first | exact HB.out | apply below_alloc | apply pw_below_drewN | apply below_drew1) | exact HB.out))) : w.heap.size ≤ gb205)); clear HO197; clear HO200; clear HB; have HO197 := n0_; have HO200 := n1_; have HB := n2_; have BK205 := n3_; have GW205 := n4_; have GE205 := n5_; clear n0_ n1_ n2_ n3_ n4_ n5_; clear hb hbox hg; obtain ⟨Ao13, co13, eo13⟩ := Kd.R_slice HO200.out; subst eo13; have hcz14_0 : w12.cell? ⟨gb205, 0, none⟩ = some (.slice none 0 0) := (blk_cell BK205.out 0).trans rfl; have hcz14_1 : w12.cell? ⟨gb205, 1, none⟩ = some (.string (⟨#[]⟩ : ByteArray)) := (blk_cell BK205.out 1).trans rfl; have hcz14_2 : w12.cell? ⟨gb205, 2, none⟩ = some (.string (⟨#[]⟩ : ByteArray)) := (blk_cell BK205.out 2).trans rfl; have hcz14_3 : w12.cell? ⟨gb205, 3, none⟩ = some (.int .i64 0) := (blk_cell BK205.out 3).trans rfl; have hfz14_0 := blk_frozen BK205.out 0; have hfz14_1 := blk_frozen BK205.out 1; have hfz14_2 := blk_frozen BK205.out 2; have hfz14_3 := blk_frozen BK205.out 3) | ((with_reducible refine gate_callee (f := 6) rfl ?_); refine goesL_ (some 26) rfl rfl Try.func6 (by kernel_rfl) rfl #[.slice A0 l0.length c0] rfl (by (try simp only [List.map_toArray, List.map_cons, List.map_nil]); first | done | rfl | (simp only [List.length_drop, List.length_take]; rfl)) ?_; (with_reducible refine (laws_toWarningS.calls k _ _ l0 t206 _ ?side1 ?side2 A6.out).mono ?_); (case side1 => exact Kd.C_below HR0.out (by repeat (first | (with_reducible first | exact HB.out | apply below_alloc | apply pw_below_drewN | apply below_drew1 | refine below_set ?_ GE205.out) | exact HB.out))); (case side2 => exact HC0.out); rintro e w15 ⟨v207, rfl, ho0, hb⟩; refine ⟨_, rfl, ?_⟩; have n0_ := Aside0.mk (Kd.R_elder' (by (with_reducible repeat (first | apply Kd.R_alloc | apply Kd.R_drewN | apply Kd.R_drew)); exact (Kd.R_mono (Kd.R_far (p := ⟨gb205, 3, none⟩) (Kd.R_far (p := ⟨gb205, 2, none⟩) (Kd.R_far (p := ⟨gb205, 1, none⟩) (Kd.R_far (p := ⟨gb205, 0, none⟩) (Kd.R_types HO197.out BK205.out (by decide)) (fun _ hk => hk.2) (.slice Ao13 t198.length co13)) (fun _ hk => hk.2) (.string t201)) (fun _ hk => hk.2) (.string t202)) (fun _ hk => hk.2) (.int .i64 t203)) (fun _ h_ => h_.1))) (Kd.R_base ho0) hb); have n1_ := Aside0.mk (Kd.R_elder' (by (with_reducible repeat (first | apply Kd.R_alloc | apply Kd.R_drewN | apply Kd.R_drew)); exact (Kd.R_mono (Kd.R_far (p := ⟨gb205, 3, none⟩) (Kd.R_far (p := ⟨gb205, 2, none⟩) (Kd.R_far (p := ⟨gb205, 1, none⟩) (Kd.R_far (p := ⟨gb205, 0, none⟩) (Kd.R_types HO200.out BK205.out (by decide)) (fun _ hk => hk.2) (.slice Ao13 t198.length co13)) (fun _ hk => hk.2) (.string t201)) (fun _ hk => hk.2) (.string t202)) (fun _ hk => hk.2) (.int .i64 t203)) (fun _ h_ => h_.1))) (Kd.R_base ho0) hb); have n2_ := Aside0.mk (Kd.R_lower (Kd.R_new' (Kd.R_new' ho0 (Kd.R_lt (by (with_reducible repeat (first | apply Kd.R_alloc | apply Kd.R_drewN | apply Kd.R_drew)); exact (Kd.R_mono (Kd.R_far (p := ⟨gb205, 3, none⟩) (Kd.R_far (p := ⟨gb205, 2, none⟩) (Kd.R_far (p := ⟨gb205, 1, none⟩) (Kd.R_far (p := ⟨gb205, 0, none⟩) (Kd.R_types HO197.out BK205.out (by decide)) (fun _ hk => hk.2) (.slice Ao13 t198.length co13)) (fun _ hk => hk.2) (.string t201)) (fun _ hk => hk.2) (.string t202)) (fun _ hk => hk.2) (.int .i64 t203)) (fun _ h_ => h_.1))))) (Kd.R_lt (by (with_reducible repeat (first | apply Kd.R_alloc | apply Kd.R_drewN | apply Kd.R_drew)); exact (Kd.R_mono (Kd.R_far (p := ⟨gb205, 3, none⟩) (Kd.R_far (p := ⟨gb205, 2, none⟩) (Kd.R_far (p := ⟨gb205, 1, none⟩) (Kd.R_far (p := ⟨gb205, 0, none⟩) (Kd.R_types HO200.out BK205.out (by decide)) (fun _ hk => hk.2) (.slice Ao13 t198.length co13)) (fun _ hk => hk.2) (.string t201)) (fun _ hk => hk.2) (.string t202)) (fun _ hk => hk.2) (.int .i64 t203)) (fun _ h_ => h_.1))))) (below_size (by repeat (first | (with_reducible first | exact HB.out | apply below_alloc | apply pw_below_drewN | apply below_drew1 | refine below_set ?_ GE205.out) | exact HB.out)))); have n3_ := Aside0.mk (blk_below (g := gb205) (o := .cells #[.slice Ao13 t198.length co13, .string t201, .string t202, .int .i64 t203] 28 (0, 0)) (by (with_reducible repeat (first | refine blk_drewN ?_ _ | refine blk_drew ?_ | refine blk_alloc ?_ _)); refine blk_put (cs := #[.slice Ao13 t198.length co13, .string t201, .string t202, .int .i64 0]) ?_ 3 _ rfl; (with_reducible repeat (first | refine blk_drewN ?_ _ | refine blk_drew ?_ | refine blk_alloc ?_ _)); refine blk_put (cs := #[.slice Ao13 t198.length co13, .string t201, .string (⟨#[]⟩ : ByteArray), .int .i64 0]) ?_ 2 _ rfl; (with_reducible repeat (first | refine blk_drewN ?_ _ | refine blk_drew ?_ | refine blk_alloc ?_ _)); refine blk_put (cs := #[.slice Ao13 t198.length co13, .string (⟨#[]⟩ : ByteArray), .string (⟨#[]⟩ : ByteArray), .int .i64 0]) ?_ 1 _ rfl; (with_reducible repeat (first | refine blk_drewN ?_ _ | refine blk_drew ?_ | refine blk_alloc ?_ _)); refine blk_put (cs := #[.slice none 0 0, .string (⟨#[]⟩ : ByteArray), .string (⟨#[]⟩ : ByteArray), .int .i64 0]) ?_ 0 _ rfl; (with_reducible repeat (first | refine blk_drewN ?_ _ | refine blk_drew ?_ | refine blk_alloc ?_ _)); exact BK205.out) hb); have n4_ := Aside0.mk (below_step (by repeat (first | (with_reducible first | exact HB.out | apply below_alloc | apply pw_below_drewN | apply below_drew1 | refine below_set ?_ GE205.out) | exact HB.out)) hb); clear HO197; clear HO200; clear BK205; clear HB; have HO197 := n0_; have HO200 := n1_; have HO208 := n2_; have BK205 := n3_; have HB := n4_; clear n0_ n1_ n2_ n3_ n4_; (try clear hb); (try clear hb2); (try clear hk); (try clear hi); (try clear ho0); obtain ⟨Ao16, co16, eo16⟩ := Kd.R_slice HO208.out; subst eo16) | ((with_reducible refine gate_callee (f := 7) rfl ?_); refine goesL_ (some 29) rfl rfl Try.func7 (by kernel_rfl) rfl #[.slice Ao16 t206.length co16] rfl (by (try simp only [List.map_toArray, List.map_cons, List.map_nil]); first | done | rfl | (simp only [List.length_drop, List.length_take]; rfl)) ?_; (with_reducible refine (impl_NewConsole.calls k _ _ t206 t209 t212 t213 t214 t215 _ ?side1 ?side2 A7.out).mono ?_); (case side1 => repeat (first | exact (Kd.R_reads' HO208.out).2.2 | (with_reducible refine Kd.C_alloc ?_ _) | (with_reducible refine Kd.C_drewN ?_ _) | (with_reducible refine Kd.C_drew ?_))); (case side2 => exact (Kd.R_reads' HO208.out).2.1); rintro e w17 ⟨v210, rfl, ho0, hb⟩; refine ⟨_, rfl, ?_⟩; have n0_ := Aside0.mk (Kd.R_elder' (by (with_reducible repeat (first | apply Kd.R_alloc | apply Kd.R_drewN | apply Kd.R_drew)); exact HO197.out) (Kd.R_base ho0) hb); have n1_ := Aside0.mk (Kd.R_elder' (by (with_reducible repeat (first | apply Kd.R_alloc | apply Kd.R_drewN | apply Kd.R_drew)); exact HO200.out) (Kd.R_base ho0) hb); have n2_ := Aside0.mk (Kd.R_elder' (by (with_reducible repeat (first | apply Kd.R_alloc | apply Kd.R_drewN | apply Kd.R_drew)); exact HO208.out) (Kd.R_base ho0) hb); have n3_ := Aside0.mk (Kd.R_lower (Kd.R_new' (Kd.R_new' (Kd.R_new' ho0 (Kd.R_lt (by (with_reducible repeat (first | apply Kd.R_alloc | apply Kd.R_drewN | apply Kd.R_drew)); exact HO197.out))) (Kd.R_lt (by (with_reducible repeat (first | apply Kd.R_alloc | apply Kd.R_drewN | apply Kd.R_drew)); exact HO200.out))) (Kd.R_lt (by (with_reducible repeat (first | apply Kd.R_alloc | apply Kd.R_drewN | apply Kd.R_drew)); exact HO208.out))) (below_size (by repeat (first | (with_reducible first | exact HB.out | apply below_alloc | apply pw_below_drewN | apply below_drew1 | refine below_set ?_ GE205.out) | exact HB.out)))); have n4_ := Aside0.mk (blk_below (g := gb205) (o := .cells #[.slice Ao13 t198.length co13, .string t201, .string t202, .int .i64 t203] 28 (0, 0)) BK205.out hb); have n5_ := Aside0.mk (below_step (by repeat (first | (with_reducible first | exact HB.out | apply below_alloc | apply pw_below_drewN | apply below_drew1 | refine below_set ?_ GE205.out) | exact HB.out)) hb); clear HO197; clear HO200; clear HO208; clear BK205; clear HB; have HO197 := n0_; have HO200 := n1_; have HO208 := n2_; have HO211 := n3_; have BK205 := n4_; have HB := n5_; clear n0_ n1_ n2_ n3_ n4_ n5_; (try clear hb); (try clear hb2); (try clear hk); (try clear hi); (try clear ho0)) | ((with_reducible refine gate_dst (N := 7) rfl ?_); refine box_event ?hg (N := 7) ?hd (cs := #[.slice none 0 0, .string (⟨#[]⟩ : ByteArray), .string (⟨#[]⟩ : ByteArray), .int .i64 0]) (t := 28) ?hr ?_; (case hd => rfl); (case hg => rfl); (case hr => first | (go_simp; done) | (go_simp; rfl)); intro gb216 hg w18 hbox hb; have n0_ := Aside0.mk (Kd.R_below (by (with_reducible repeat (first | apply Kd.R_alloc | apply Kd.R_drewN | apply Kd.R_drew)); exact HO197.out) hb); have n1_ := Aside0.mk (Kd.R_below (by (with_reducible repeat (first | apply Kd.R_alloc | apply Kd.R_drewN | apply Kd.R_drew)); exact HO200.out) hb); have n2_ := Aside0.mk (Kd.R_below (by (with_reducible repeat (first | apply Kd.R_alloc | apply Kd.R_drewN | apply Kd.R_drew)); exact HO208.out) hb); have n3_ := Aside0.mk (Kd.R_below (by (with_reducible repeat (first | apply Kd.R_alloc | apply Kd.R_drewN | apply Kd.R_drew)); exact HO211.out) hb); have n4_ := Aside0.mk (blk_below (g := gb205) (o := .cells #[.slice Ao13 t198.length co13, .string t201, .string t202, .int .i64 t203] 28 (0, 0)) BK205.out hb); have n5_ := Aside0.mk (below_step (by repeat (first | (with_reducible first | exact HB.out | apply below_alloc | apply pw_below_drewN | apply below_drew1 | refine below_set ?_ GE205.out) | exact HB.out)) hb); have n6_ := Aside0.mk (hbox); have n7_ := Aside0.mk ((by rw [hg]; exact (below_size (by repeat (first | (with_reducible first | exact HB.out | apply below_alloc | apply pw_below_drewN | apply below_drew1 | refine below_set ?_ GE205.out) | exact HB.out))) : w.heap.size ≤ gb216)); have n8_ := Aside0.mk ((by rw [hg]; exact (below_size (by repeat (first | (with_reducible first | exact HB.out | apply below_alloc | apply pw_below_drewN | apply below_drew1 | refine below_set ?_ GE205.out) | exact HB.out))) : w.heap.size ≤ gb216)); have n9_ := Aside0.mk ((by rw [hg]; exact Nat.ne_of_lt (blk_lt (g := gb205) (o := .cells #[.slice Ao13 t198.length co13, .string t201, .string t202, .int .i64 t203] 28 (0, 0)) BK205.out) : gb205 ≠ gb216)); have n10_ := Aside0.mk ((by rw [hg]; exact Nat.ne_of_gt (blk_lt (g := gb205) (o := .cells #[.slice Ao13 t198.length co13, .string t201, .string t202, .int .i64 t203] 28 (0, 0)) BK205.out) : gb216 ≠ gb205)); clear HO197; clear HO200; clear HO208; clear HO211; clear BK205; clear HB; have HO197 := n0_; have HO200 := n1_; have HO208 := n2_; have HO211 := n3_; have BK205 := n4_; have HB := n5_; have BK216 := n6_; have GW216 := n7_; have GE216 := n8_; have NB205_216 := n9_; have NB216_205 := n10_; clear n0_ n1_ n2_ n3_ n4_ n5_ n6_ n7_ n8_ n9_ n10_; clear hb hbox hg; obtain ⟨Ao19, co19, eo19⟩ := Kd.R_slice HO211.out; subst eo19; have hnb20 := NB216_205.out; have hnc20 := NB205_216.out; have hcz21_0 : w18.cell? ⟨gb216, 0, none⟩ = some (.slice none 0 0) := (blk_cell BK216.out 0).trans rfl; have hcz21_1 : w18.cell? ⟨gb216, 1, none⟩ = some (.string (⟨#[]⟩ : ByteArray)) := (blk_cell BK216.out 1).trans rfl; have hcz21_2 : w18.cell? ⟨gb216, 2, none⟩ = some (.string (⟨#[]⟩ : ByteArray)) := (blk_cell BK216.out 2).trans rfl; have hcz21_3 : w18.cell? ⟨gb216, 3, none⟩ = some (.int .i64 0) := (blk_cell BK216.out 3).trans rfl; have hfz21_0 := blk_frozen BK216.out 0; have hfz21_1 := blk_frozen BK216.out 1; have hfz21_2 := blk_frozen BK216.out 2; have hfz21_3 := blk_frozen BK216.out 3))
  (try simp only [Act.put, List.setIfInBounds_toArray, List.set_cons_zero, List.set_cons_succ])
  go_cut [40] (fun v40 wc => ∃ (kq : Nat) (x40_7 : Bool), v40 = .bool x40_7 ∧ Aside0 (laws_FnExactNewConsole.j0 kq l0 t204 t206 t215 x40_7 t198 t201 t202 t203 t209 t212 t213 t214 = some r) ∧ Aside0 (kq ≤ k) ∧ Aside0 (Kd.R k40 40 wc w.heap.size (fun k_ => some k_ ≠ ((.slice Ao13 t198.length co13) : Value).ownBlock ∧ some k_ ≠ ((.slice Ao19 t209.length co19) : Value).ownBlock) (.slice Ao16 t206.length co16) t206) ∧ Aside0 (Kd.R k40 40 wc w.heap.size (fun k_ => some k_ ≠ ((.slice Ao16 t206.length co16) : Value).ownBlock ∧ some k_ ≠ ((.slice Ao19 t209.length co19) : Value).ownBlock) (.slice Ao13 t198.length co13) t198) ∧ Aside0 (Kd.R k40 40 wc w.heap.size (fun k_ => some k_ ≠ ((.slice Ao16 t206.length co16) : Value).ownBlock ∧ some k_ ≠ ((.slice Ao13 t198.length co13) : Value).ownBlock) (.slice Ao19 t209.length co19) t209) ∧ Aside0 (wc.heap[gb205]? = some (.cells #[(.slice Ao13 t198.length co13), .string t201, .string t202, .int .i64 t203] 28 (0, 0))) ∧ Aside0 (wc.heap[gb216]? = some (.cells #[(.slice Ao19 t209.length co19), .string t212, .string t213, .int .i64 t214] 28 (0, 0))) ∧ Aside0 (Below w.heap.size w wc))
  case first =>
   as_aux_lemma =>
    have H := HC8.out
    clear HC8
    replace H := Option.bind_eq_some_iff.mp H
    obtain ⟨t217, A220, H⟩ := H
    replace H : (if t217 = true then (laws_FnExactNewConsole.j0 k l0 t204 t206 t215 (t215 != t204) t198 t201 t202 t203 t209 t212 t213 t214) else (laws_FnExactNewConsole.j0 k l0 t204 t206 t215 true t198 t201 t202 t203 t209 t212 t213 t214)) = some r := H
    have A22 := Aside0.mk A220
    clear A220
    by_cases c23 : t217 = true
    ·
     subst c23
     have H1 : (laws_FnExactNewConsole.j0 k l0 t204 t206 t215 (t215 != t204) t198 t201 t202 t203 t209 t212 t213 t214) = some r := by rw [if_pos rfl] at H; exact H
     clear H
     have H := H1
     clear H1
     have H' := Aside0.mk H
     clear H
     have hnb24 := NB216_205.out
     have hnc24 := NB205_216.out
     have hcz25_0 : w18.cell? ⟨gb216, 0, none⟩ = some (.slice none 0 0) := (blk_cell BK216.out 0).trans rfl
     have hcz25_1 : w18.cell? ⟨gb216, 1, none⟩ = some (.string (⟨#[]⟩ : ByteArray)) := (blk_cell BK216.out 1).trans rfl
     have hcz25_2 : w18.cell? ⟨gb216, 2, none⟩ = some (.string (⟨#[]⟩ : ByteArray)) := (blk_cell BK216.out 2).trans rfl
     have hcz25_3 : w18.cell? ⟨gb216, 3, none⟩ = some (.int .i64 0) := (blk_cell BK216.out 3).trans rfl
     have hfz25_0 := blk_frozen BK216.out 0
     have hfz25_1 := blk_frozen BK216.out 1
     have hfz25_2 := blk_frozen BK216.out 2
     have hfz25_3 := blk_frozen BK216.out 3
     have hcz26_0 : w18.cell? ⟨gb205, 0, none⟩ = some (.slice Ao13 t198.length co13) := (blk_cell BK205.out 0).trans rfl
     have hcz26_1 : w18.cell? ⟨gb205, 1, none⟩ = some (.string t201) := (blk_cell BK205.out 1).trans rfl
     have hcz26_2 : w18.cell? ⟨gb205, 2, none⟩ = some (.string t202) := (blk_cell BK205.out 2).trans rfl
     have hcz26_3 : w18.cell? ⟨gb205, 3, none⟩ = some (.int .i64 t203) := (blk_cell BK205.out 3).trans rfl
     have hfz26_0 := blk_frozen BK205.out 0
     have hfz26_1 := blk_frozen BK205.out 1
     have hfz26_2 := blk_frozen BK205.out 2
     have hfz26_3 := blk_frozen BK205.out 3
     go_wp2_with (first | ((with_reducible refine gate_callee (f := 8) rfl ?_); refine goesL_ (some 34) rfl rfl Try.func8 (by kernel_rfl) rfl #[.agg #[.slice Ao19 t209.length co19, .string t212, .string t213, .int .i64 t214], .agg #[.slice Ao13 t198.length co13, .string t201, .string t202, .int .i64 t203]] rfl (by (try simp only [List.map_toArray, List.map_cons, List.map_nil]); first | done | rfl | (simp only [List.length_drop, List.length_take]; rfl)) ?_; (with_reducible refine (laws_eqConsole.calls k _ _ t209 t212 t213 t214 _ _ t198 t201 t202 t203 true _ ?side1 ?side2 ?side3 ?side4 A22.out).mono ?_); (case side1 => refine (Kd.R_reads' (e := 40) (base := w.heap.size) (ok := fun k_ => (((True ∧ some k_ ≠ (.slice Ao10 t195.length co10 : Value).ownBlock) ∧ some k_ ≠ (.slice Ao13 t198.length co13 : Value).ownBlock) ∧ some k_ ≠ (.slice Ao16 t206.length co16 : Value).ownBlock)) (n := t209.length) (c := co19) ?_).2.2; exact (by (with_reducible repeat (first | apply Kd.R_alloc | apply Kd.R_drewN | apply Kd.R_drew)); exact (Kd.R_mono (Kd.R_far (p := ⟨gb216, 3, none⟩) (Kd.R_far (p := ⟨gb216, 2, none⟩) (Kd.R_far (p := ⟨gb216, 1, none⟩) (Kd.R_far (p := ⟨gb216, 0, none⟩) (Kd.R_types HO211.out BK216.out (by decide)) (fun _ hk => hk.2) (.slice Ao19 t209.length co19)) (fun _ hk => hk.2) (.string t212)) (fun _ hk => hk.2) (.string t213)) (fun _ hk => hk.2) (.int .i64 t214)) (fun _ h_ => h_.1)))); (case side2 => exact (Kd.R_reads' HO211.out).2.1); (case side3 => refine (Kd.R_reads' (e := 40) (base := w.heap.size) (ok := fun k_ => (((True ∧ some k_ ≠ (.slice Ao10 t195.length co10 : Value).ownBlock) ∧ some k_ ≠ (.slice Ao16 t206.length co16 : Value).ownBlock) ∧ some k_ ≠ (.slice Ao19 t209.length co19 : Value).ownBlock)) (n := t198.length) (c := co13) ?_).2.2; exact (by (with_reducible repeat (first | apply Kd.R_alloc | apply Kd.R_drewN | apply Kd.R_drew)); exact (Kd.R_mono (Kd.R_far (p := ⟨gb216, 3, none⟩) (Kd.R_far (p := ⟨gb216, 2, none⟩) (Kd.R_far (p := ⟨gb216, 1, none⟩) (Kd.R_far (p := ⟨gb216, 0, none⟩) (Kd.R_types HO200.out BK216.out (by decide)) (fun _ hk => hk.2) (.slice Ao19 t209.length co19)) (fun _ hk => hk.2) (.string t212)) (fun _ hk => hk.2) (.string t213)) (fun _ hk => hk.2) (.int .i64 t214)) (fun _ h_ => h_.1)))); (case side4 => exact (Kd.R_reads' HO200.out).2.1); rintro e w27 ⟨rfl, hb⟩; refine ⟨_, rfl, ?_⟩; have n0_ := Aside0.mk (Kd.R_below (by (with_reducible repeat (first | apply Kd.R_alloc | apply Kd.R_drewN | apply Kd.R_drew)); exact (Kd.R_mono (Kd.R_far (p := ⟨gb216, 3, none⟩) (Kd.R_far (p := ⟨gb216, 2, none⟩) (Kd.R_far (p := ⟨gb216, 1, none⟩) (Kd.R_far (p := ⟨gb216, 0, none⟩) (Kd.R_types HO197.out BK216.out (by decide)) (fun _ hk => hk.2) (.slice Ao19 t209.length co19)) (fun _ hk => hk.2) (.string t212)) (fun _ hk => hk.2) (.string t213)) (fun _ hk => hk.2) (.int .i64 t214)) (fun _ h_ => h_.1))) hb); have n1_ := Aside0.mk (Kd.R_below (by (with_reducible repeat (first | apply Kd.R_alloc | apply Kd.R_drewN | apply Kd.R_drew)); exact (Kd.R_mono (Kd.R_far (p := ⟨gb216, 3, none⟩) (Kd.R_far (p := ⟨gb216, 2, none⟩) (Kd.R_far (p := ⟨gb216, 1, none⟩) (Kd.R_far (p := ⟨gb216, 0, none⟩) (Kd.R_types HO200.out BK216.out (by decide)) (fun _ hk => hk.2) (.slice Ao19 t209.length co19)) (fun _ hk => hk.2) (.string t212)) (fun _ hk => hk.2) (.string t213)) (fun _ hk => hk.2) (.int .i64 t214)) (fun _ h_ => h_.1))) hb); have n2_ := Aside0.mk (Kd.R_below (by (with_reducible repeat (first | apply Kd.R_alloc | apply Kd.R_drewN | apply Kd.R_drew)); exact (Kd.R_mono (Kd.R_far (p := ⟨gb216, 3, none⟩) (Kd.R_far (p := ⟨gb216, 2, none⟩) (Kd.R_far (p := ⟨gb216, 1, none⟩) (Kd.R_far (p := ⟨gb216, 0, none⟩) (Kd.R_types HO208.out BK216.out (by decide)) (fun _ hk => hk.2) (.slice Ao19 t209.length co19)) (fun _ hk => hk.2) (.string t212)) (fun _ hk => hk.2) (.string t213)) (fun _ hk => hk.2) (.int .i64 t214)) (fun _ h_ => h_.1))) hb); have n3_ := Aside0.mk (Kd.R_below (by (with_reducible repeat (first | apply Kd.R_alloc | apply Kd.R_drewN | apply Kd.R_drew)); exact (Kd.R_mono (Kd.R_far (p := ⟨gb216, 3, none⟩) (Kd.R_far (p := ⟨gb216, 2, none⟩) (Kd.R_far (p := ⟨gb216, 1, none⟩) (Kd.R_far (p := ⟨gb216, 0, none⟩) (Kd.R_types HO211.out BK216.out (by decide)) (fun _ hk => hk.2) (.slice Ao19 t209.length co19)) (fun _ hk => hk.2) (.string t212)) (fun _ hk => hk.2) (.string t213)) (fun _ hk => hk.2) (.int .i64 t214)) (fun _ h_ => h_.1))) hb); have n4_ := Aside0.mk (blk_below (g := gb205) (o := .cells #[.slice Ao13 t198.length co13, .string t201, .string t202, .int .i64 t203] 28 (0, 0)) (by (with_reducible repeat (first | refine blk_drewN ?_ _ | refine blk_drew ?_ | refine blk_alloc ?_ _)); refine blk_far ?_ NB205_216.out _; (with_reducible repeat (first | refine blk_drewN ?_ _ | refine blk_drew ?_ | refine blk_alloc ?_ _)); refine blk_far ?_ NB205_216.out _; (with_reducible repeat (first | refine blk_drewN ?_ _ | refine blk_drew ?_ | refine blk_alloc ?_ _)); refine blk_far ?_ NB205_216.out _; (with_reducible repeat (first | refine blk_drewN ?_ _ | refine blk_drew ?_ | refine blk_alloc ?_ _)); refine blk_far ?_ NB205_216.out _; (with_reducible repeat (first | refine blk_drewN ?_ _ | refine blk_drew ?_ | refine blk_alloc ?_ _)); exact BK205.out) hb); have n5_ := Aside0.mk (blk_below (g := gb216) (o := .cells #[.slice Ao19 t209.length co19, .string t212, .string t213, .int .i64 t214] 28 (0, 0)) (by (with_reducible repeat (first | refine blk_drewN ?_ _ | refine blk_drew ?_ | refine blk_alloc ?_ _)); refine blk_put (cs := #[.slice Ao19 t209.length co19, .string t212, .string t213, .int .i64 0]) ?_ 3 _ rfl; (with_reducible repeat (first | refine blk_drewN ?_ _ | refine blk_drew ?_ | refine blk_alloc ?_ _)); refine blk_put (cs := #[.slice Ao19 t209.length co19, .string t212, .string (⟨#[]⟩ : ByteArray), .int .i64 0]) ?_ 2 _ rfl; (with_reducible repeat (first | refine blk_drewN ?_ _ | refine blk_drew ?_ | refine blk_alloc ?_ _)); refine blk_put (cs := #[.slice Ao19 t209.length co19, .string (⟨#[]⟩ : ByteArray), .string (⟨#[]⟩ : ByteArray), .int .i64 0]) ?_ 1 _ rfl; (with_reducible repeat (first | refine blk_drewN ?_ _ | refine blk_drew ?_ | refine blk_alloc ?_ _)); refine blk_put (cs := #[.slice none 0 0, .string (⟨#[]⟩ : ByteArray), .string (⟨#[]⟩ : ByteArray), .int .i64 0]) ?_ 0 _ rfl; (with_reducible repeat (first | refine blk_drewN ?_ _ | refine blk_drew ?_ | refine blk_alloc ?_ _)); exact BK216.out) hb); have n6_ := Aside0.mk (below_step (by repeat (first | (with_reducible first | exact HB.out | apply below_alloc | apply pw_below_drewN | apply below_drew1 | refine below_set ?_ GE205.out | refine below_set ?_ GE216.out) | exact HB.out)) hb); clear HO197; clear HO200; clear HO208; clear HO211; clear BK205; clear BK216; clear HB; have HO197 := n0_; have HO200 := n1_; have HO208 := n2_; have HO211 := n3_; have BK205 := n4_; have BK216 := n5_; have HB := n6_; clear n0_ n1_ n2_ n3_ n4_ n5_ n6_; (try clear hb); (try clear hb2); (try clear hk); (try clear hi)))
     go_meet
     case rel => exact ⟨_, ((t215 != t204)), (by first | rfl | (simp; done) | (simp [*]; done)), H', ⟨by first | omega | exact Nat.le_refl _⟩, ⟨by (with_reducible repeat (first | apply Kd.R_alloc | apply Kd.R_drewN | apply Kd.R_drew)); exact Kd.R_mono HO208.out (fun _ hk => ⟨hk.1.2, hk.2⟩)⟩, ⟨by (with_reducible repeat (first | apply Kd.R_alloc | apply Kd.R_drewN | apply Kd.R_drew)); exact Kd.R_mono HO200.out (fun _ hk => ⟨hk.1.2, hk.2⟩)⟩, ⟨by (with_reducible repeat (first | apply Kd.R_alloc | apply Kd.R_drewN | apply Kd.R_drew)); exact Kd.R_mono HO211.out (fun _ hk => ⟨hk.2, hk.1.2⟩)⟩, ⟨by (with_reducible repeat (first | refine blk_drewN ?_ _ | refine blk_drew ?_ | refine blk_alloc ?_ _)); exact BK205.out⟩, ⟨by (with_reducible repeat (first | refine blk_drewN ?_ _ | refine blk_drew ?_ | refine blk_alloc ?_ _)); exact BK216.out⟩, ⟨by repeat (first | (with_reducible first | exact HB.out | apply below_alloc | apply pw_below_drewN | apply below_drew1 | refine below_set ?_ GE205.out | refine below_set ?_ GE216.out) | exact HB.out)⟩⟩
    ·
     replace c23 := Bool.eq_false_iff.mpr c23
     subst c23
     have H1 : (laws_FnExactNewConsole.j0 k l0 t204 t206 t215 true t198 t201 t202 t203 t209 t212 t213 t214) = some r := by rw [if_neg (show ¬ (false = true) by decide)] at H; exact H
     clear H
     have H := H1
     clear H1
     have H' := Aside0.mk H
     clear H
     have hnb28 := NB216_205.out
     have hnc28 := NB205_216.out
     have hcz29_0 : w18.cell? ⟨gb216, 0, none⟩ = some (.slice none 0 0) := (blk_cell BK216.out 0).trans rfl
     have hcz29_1 : w18.cell? ⟨gb216, 1, none⟩ = some (.string (⟨#[]⟩ : ByteArray)) := (blk_cell BK216.out 1).trans rfl
     have hcz29_2 : w18.cell? ⟨gb216, 2, none⟩ = some (.string (⟨#[]⟩ : ByteArray)) := (blk_cell BK216.out 2).trans rfl
     have hcz29_3 : w18.cell? ⟨gb216, 3, none⟩ = some (.int .i64 0) := (blk_cell BK216.out 3).trans rfl
     have hfz29_0 := blk_frozen BK216.out 0
     have hfz29_1 := blk_frozen BK216.out 1
     have hfz29_2 := blk_frozen BK216.out 2
     have hfz29_3 := blk_frozen BK216.out 3
     have hcz30_0 : w18.cell? ⟨gb205, 0, none⟩ = some (.slice Ao13 t198.length co13) := (blk_cell BK205.out 0).trans rfl
     have hcz30_1 : w18.cell? ⟨gb205, 1, none⟩ = some (.string t201) := (blk_cell BK205.out 1).trans rfl
     have hcz30_2 : w18.cell? ⟨gb205, 2, none⟩ = some (.string t202) := (blk_cell BK205.out 2).trans rfl
     have hcz30_3 : w18.cell? ⟨gb205, 3, none⟩ = some (.int .i64 t203) := (blk_cell BK205.out 3).trans rfl
     have hfz30_0 := blk_frozen BK205.out 0
     have hfz30_1 := blk_frozen BK205.out 1
     have hfz30_2 := blk_frozen BK205.out 2
     have hfz30_3 := blk_frozen BK205.out 3
     go_wp2_with (first | ((with_reducible refine gate_callee (f := 8) rfl ?_); refine goesL_ (some 34) rfl rfl Try.func8 (by kernel_rfl) rfl #[.agg #[.slice Ao19 t209.length co19, .string t212, .string t213, .int .i64 t214], .agg #[.slice Ao13 t198.length co13, .string t201, .string t202, .int .i64 t203]] rfl (by (try simp only [List.map_toArray, List.map_cons, List.map_nil]); first | done | rfl | (simp only [List.length_drop, List.length_take]; rfl)) ?_; (with_reducible refine (laws_eqConsole.calls k _ _ t209 t212 t213 t214 _ _ t198 t201 t202 t203 false _ ?side1 ?side2 ?side3 ?side4 A22.out).mono ?_); (case side1 => refine (Kd.R_reads' (e := 40) (base := w.heap.size) (ok := fun k_ => (((True ∧ some k_ ≠ (.slice Ao10 t195.length co10 : Value).ownBlock) ∧ some k_ ≠ (.slice Ao13 t198.length co13 : Value).ownBlock) ∧ some k_ ≠ (.slice Ao16 t206.length co16 : Value).ownBlock)) (n := t209.length) (c := co19) ?_).2.2; exact (by (with_reducible repeat (first | apply Kd.R_alloc | apply Kd.R_drewN | apply Kd.R_drew)); exact (Kd.R_mono (Kd.R_far (p := ⟨gb216, 3, none⟩) (Kd.R_far (p := ⟨gb216, 2, none⟩) (Kd.R_far (p := ⟨gb216, 1, none⟩) (Kd.R_far (p := ⟨gb216, 0, none⟩) (Kd.R_types HO211.out BK216.out (by decide)) (fun _ hk => hk.2) (.slice Ao19 t209.length co19)) (fun _ hk => hk.2) (.string t212)) (fun _ hk => hk.2) (.string t213)) (fun _ hk => hk.2) (.int .i64 t214)) (fun _ h_ => h_.1)))); (case side2 => exact (Kd.R_reads' HO211.out).2.1); (case side3 => refine (Kd.R_reads' (e := 40) (base := w.heap.size) (ok := fun k_ => (((True ∧ some k_ ≠ (.slice Ao10 t195.length co10 : Value).ownBlock) ∧ some k_ ≠ (.slice Ao16 t206.length co16 : Value).ownBlock) ∧ some k_ ≠ (.slice Ao19 t209.length co19 : Value).ownBlock)) (n := t198.length) (c := co13) ?_).2.2; exact (by (with_reducible repeat (first | apply Kd.R_alloc | apply Kd.R_drewN | apply Kd.R_drew)); exact (Kd.R_mono (Kd.R_far (p := ⟨gb216, 3, none⟩) (Kd.R_far (p := ⟨gb216, 2, none⟩) (Kd.R_far (p := ⟨gb216, 1, none⟩) (Kd.R_far (p := ⟨gb216, 0, none⟩) (Kd.R_types HO200.out BK216.out (by decide)) (fun _ hk => hk.2) (.slice Ao19 t209.length co19)) (fun _ hk => hk.2) (.string t212)) (fun _ hk => hk.2) (.string t213)) (fun _ hk => hk.2) (.int .i64 t214)) (fun _ h_ => h_.1)))); (case side4 => exact (Kd.R_reads' HO200.out).2.1); rintro e w31 ⟨rfl, hb⟩; refine ⟨_, rfl, ?_⟩; have n0_ := Aside0.mk (Kd.R_below (by (with_reducible repeat (first | apply Kd.R_alloc | apply Kd.R_drewN | apply Kd.R_drew)); exact (Kd.R_mono (Kd.R_far (p := ⟨gb216, 3, none⟩) (Kd.R_far (p := ⟨gb216, 2, none⟩) (Kd.R_far (p := ⟨gb216, 1, none⟩) (Kd.R_far (p := ⟨gb216, 0, none⟩) (Kd.R_types HO197.out BK216.out (by decide)) (fun _ hk => hk.2) (.slice Ao19 t209.length co19)) (fun _ hk => hk.2) (.string t212)) (fun _ hk => hk.2) (.string t213)) (fun _ hk => hk.2) (.int .i64 t214)) (fun _ h_ => h_.1))) hb); have n1_ := Aside0.mk (Kd.R_below (by (with_reducible repeat (first | apply Kd.R_alloc | apply Kd.R_drewN | apply Kd.R_drew)); exact (Kd.R_mono (Kd.R_far (p := ⟨gb216, 3, none⟩) (Kd.R_far (p := ⟨gb216, 2, none⟩) (Kd.R_far (p := ⟨gb216, 1, none⟩) (Kd.R_far (p := ⟨gb216, 0, none⟩) (Kd.R_types HO200.out BK216.out (by decide)) (fun _ hk => hk.2) (.slice Ao19 t209.length co19)) (fun _ hk => hk.2) (.string t212)) (fun _ hk => hk.2) (.string t213)) (fun _ hk => hk.2) (.int .i64 t214)) (fun _ h_ => h_.1))) hb); have n2_ := Aside0.mk (Kd.R_below (by (with_reducible repeat (first | apply Kd.R_alloc | apply Kd.R_drewN | apply Kd.R_drew)); exact (Kd.R_mono (Kd.R_far (p := ⟨gb216, 3, none⟩) (Kd.R_far (p := ⟨gb216, 2, none⟩) (Kd.R_far (p := ⟨gb216, 1, none⟩) (Kd.R_far (p := ⟨gb216, 0, none⟩) (Kd.R_types HO208.out BK216.out (by decide)) (fun _ hk => hk.2) (.slice Ao19 t209.length co19)) (fun _ hk => hk.2) (.string t212)) (fun _ hk => hk.2) (.string t213)) (fun _ hk => hk.2) (.int .i64 t214)) (fun _ h_ => h_.1))) hb); have n3_ := Aside0.mk (Kd.R_below (by (with_reducible repeat (first | apply Kd.R_alloc | apply Kd.R_drewN | apply Kd.R_drew)); exact (Kd.R_mono (Kd.R_far (p := ⟨gb216, 3, none⟩) (Kd.R_far (p := ⟨gb216, 2, none⟩) (Kd.R_far (p := ⟨gb216, 1, none⟩) (Kd.R_far (p := ⟨gb216, 0, none⟩) (Kd.R_types HO211.out BK216.out (by decide)) (fun _ hk => hk.2) (.slice Ao19 t209.length co19)) (fun _ hk => hk.2) (.string t212)) (fun _ hk => hk.2) (.string t213)) (fun _ hk => hk.2) (.int .i64 t214)) (fun _ h_ => h_.1))) hb); have n4_ := Aside0.mk (blk_below (g := gb205) (o := .cells #[.slice Ao13 t198.length co13, .string t201, .string t202, .int .i64 t203] 28 (0, 0)) (by (with_reducible repeat (first | refine blk_drewN ?_ _ | refine blk_drew ?_ | refine blk_alloc ?_ _)); refine blk_far ?_ NB205_216.out _; (with_reducible repeat (first | refine blk_drewN ?_ _ | refine blk_drew ?_ | refine blk_alloc ?_ _)); refine blk_far ?_ NB205_216.out _; (with_reducible repeat (first | refine blk_drewN ?_ _ | refine blk_drew ?_ | refine blk_alloc ?_ _)); refine blk_far ?_ NB205_216.out _; (with_reducible repeat (first | refine blk_drewN ?_ _ | refine blk_drew ?_ | refine blk_alloc ?_ _)); refine blk_far ?_ NB205_216.out _; (with_reducible repeat (first | refine blk_drewN ?_ _ | refine blk_drew ?_ | refine blk_alloc ?_ _)); exact BK205.out) hb); have n5_ := Aside0.mk (blk_below (g := gb216) (o := .cells #[.slice Ao19 t209.length co19, .string t212, .string t213, .int .i64 t214] 28 (0, 0)) (by (with_reducible repeat (first | refine blk_drewN ?_ _ | refine blk_drew ?_ | refine blk_alloc ?_ _)); refine blk_put (cs := #[.slice Ao19 t209.length co19, .string t212, .string t213, .int .i64 0]) ?_ 3 _ rfl; (with_reducible repeat (first | refine blk_drewN ?_ _ | refine blk_drew ?_ | refine blk_alloc ?_ _)); refine blk_put (cs := #[.slice Ao19 t209.length co19, .string t212, .string (⟨#[]⟩ : ByteArray), .int .i64 0]) ?_ 2 _ rfl; (with_reducible repeat (first | refine blk_drewN ?_ _ | refine blk_drew ?_ | refine blk_alloc ?_ _)); refine blk_put (cs := #[.slice Ao19 t209.length co19, .string (⟨#[]⟩ : ByteArray), .string (⟨#[]⟩ : ByteArray), .int .i64 0]) ?_ 1 _ rfl; (with_reducible repeat (first | refine blk_drewN ?_ _ | refine blk_drew ?_ | refine blk_alloc ?_ _)); refine blk_put (cs := #[.slice none 0 0, .string (⟨#[]⟩ : ByteArray), .string (⟨#[]⟩ : ByteArray), .int .i64 0]) ?_ 0 _ rfl; (with_reducible repeat (first | refine blk_drewN ?_ _ | refine blk_drew ?_ | refine blk_alloc ?_ _)); exact BK216.out) hb); have n6_ := Aside0.mk (below_step (by repeat (first | (with_reducible first | exact HB.out | apply below_alloc | apply pw_below_drewN | apply below_drew1 | refine below_set ?_ GE205.out | refine below_set ?_ GE216.out) | exact HB.out)) hb); clear HO197; clear HO200; clear HO208; clear HO211; clear BK205; clear BK216; clear HB; have HO197 := n0_; have HO200 := n1_; have HO208 := n2_; have HO211 := n3_; have BK205 := n4_; have BK216 := n5_; have HB := n6_; clear n0_ n1_ n2_ n3_ n4_ n5_ n6_; (try clear hb); (try clear hb2); (try clear hk); (try clear hi)))
     go_meet
     case rel => exact ⟨_, (true), (by first | rfl | (simp; done) | (simp [*]; done)), H', ⟨by first | omega | exact Nat.le_refl _⟩, ⟨by (with_reducible repeat (first | apply Kd.R_alloc | apply Kd.R_drewN | apply Kd.R_drew)); exact Kd.R_mono HO208.out (fun _ hk => ⟨hk.1.2, hk.2⟩)⟩, ⟨by (with_reducible repeat (first | apply Kd.R_alloc | apply Kd.R_drewN | apply Kd.R_drew)); exact Kd.R_mono HO200.out (fun _ hk => ⟨hk.1.2, hk.2⟩)⟩, ⟨by (with_reducible repeat (first | apply Kd.R_alloc | apply Kd.R_drewN | apply Kd.R_drew)); exact Kd.R_mono HO211.out (fun _ hk => ⟨hk.2, hk.1.2⟩)⟩, ⟨by (with_reducible repeat (first | refine blk_drewN ?_ _ | refine blk_drew ?_ | refine blk_alloc ?_ _)); exact BK205.out⟩, ⟨by (with_reducible repeat (first | refine blk_drewN ?_ _ | refine blk_drew ?_ | refine blk_alloc ?_ _)); exact BK216.out⟩, ⟨by repeat (first | (with_reducible first | exact HB.out | apply below_alloc | apply pw_below_drewN | apply below_drew1 | refine below_set ?_ GE205.out | refine below_set ?_ GE216.out) | exact HB.out)⟩⟩
  case rest =>
   as_aux_lemma =>
    clear HC8
    try clear c2
    try clear p2
    try clear c3
    try clear c3b0
    try clear c4
    try clear c5
    try clear c6
    try clear c7
    try clear c8
    try clear c20
    try clear c23
    try clear c24
    try clear c28
    try clear hcz14_0
    try clear hcz14_1
    try clear hcz14_2
    try clear hcz14_3
    try clear hcz21_0
    try clear hcz21_1
    try clear hcz21_2
    try clear hcz21_3
    try clear hcz25_0
    try clear hcz25_1
    try clear hcz25_2
    try clear hcz25_3
    try clear hcz26_0
    try clear hcz26_1
    try clear hcz26_2
    try clear hcz26_3
    try clear hcz29_0
    try clear hcz29_1
    try clear hcz29_2
    try clear hcz29_3
    try clear hcz30_0
    try clear hcz30_1
    try clear hcz30_2
    try clear hcz30_3
    try clear hfz14_0
    try clear hfz14_1
    try clear hfz14_2
    try clear hfz14_3
    try clear hfz21_0
    try clear hfz21_1
    try clear hfz21_2
    try clear hfz21_3
    try clear hfz25_0
    try clear hfz25_1
    try clear hfz25_2
    try clear hfz25_3
    try clear hfz26_0
    try clear hfz26_1
    try clear hfz26_2
    try clear hfz26_3
    try clear hfz29_0
    try clear hfz29_1
    try clear hfz29_2
    try clear hfz29_3
    try clear hfz30_0
    try clear hfz30_1
    try clear hfz30_2
    try clear hfz30_3
    obtain ⟨kq, x40_7, rfl, HA, HJ7, HO_6, HO_206000, HO_217000, BK205, BK216, HB⟩ := hcut
    cases kq with
    | zero => exact absurd HA.out (by simp [laws_FnExactNewConsole.j0])
    | succ kj7 =>
     have H := HA.out
     clear HA
     simp only [laws_FnExactNewConsole.j0] at H
     by_cases c32 : x40_7 = true
     ·
      subst c32
      have H1 : (some false) = some r := by rw [if_pos rfl] at H; exact H
      exact absurd ((Option.some.inj H1).trans hrt_) (by decide)
     ·
      replace c32 := Bool.eq_false_iff.mpr c32
      subst c32
      have H1 : ((laws_toWarningS.f kj7 l0).bind fun t218 => ((laws_eqWarningS.f kj7 t206 t218).bind fun t221 => (if t221 = true then ((laws_markWarningS.f kj7 t206 1).bind fun bt222 => (if bt222.1 < 0 then (laws_FnExactNewConsole.j1 kj7 l0 t204 true t198 t201 t202 t203 t209 t212 t213 t214) else ((laws_eqConsole.f kj7 t209 t212 t213 t214 t198 t201 t202 t203).bind fun t224 => (if t224 = true then (laws_FnExactNewConsole.j1 kj7 l0 t204 (t215 != t204) t198 t201 t202 t203 t209 t212 t213 t214) else (laws_FnExactNewConsole.j1 kj7 l0 t204 true t198 t201 t202 t203 t209 t212 t213 t214))))) else (some false)))) = some r := by rw [if_neg (show ¬ (false = true) by decide)] at H; exact H
      clear H
      have H := H1
      clear H1
      replace H := Option.bind_eq_some_iff.mp H
      obtain ⟨t218, A330, H⟩ := H
      replace H : ((laws_eqWarningS.f kj7 t206 t218).bind fun t221 => (if t221 = true then ((laws_markWarningS.f kj7 t206 1).bind fun bt222 => (if bt222.1 < 0 then (laws_FnExactNewConsole.j1 kj7 l0 t204 true t198 t201 t202 t203 t209 t212 t213 t214) else ((laws_eqConsole.f kj7 t209 t212 t213 t214 t198 t201 t202 t203).bind fun t224 => (if t224 = true then (laws_FnExactNewConsole.j1 kj7 l0 t204 (t215 != t204) t198 t201 t202 t203 t209 t212 t213 t214) else (laws_FnExactNewConsole.j1 kj7 l0 t204 true t198 t201 t202 t203 t209 t212 t213 t214))))) else (some false))) = some r := H
      have A33 := Aside0.mk A330
      clear A330
      replace H := Option.bind_eq_some_iff.mp H
      obtain ⟨t221, A340, H⟩ := H
      replace H : (if t221 = true then ((laws_markWarningS.f kj7 t206 1).bind fun bt222 => (if bt222.1 < 0 then (laws_FnExactNewConsole.j1 kj7 l0 t204 true t198 t201 t202 t203 t209 t212 t213 t214) else ((laws_eqConsole.f kj7 t209 t212 t213 t214 t198 t201 t202 t203).bind fun t224 => (if t224 = true then (laws_FnExactNewConsole.j1 kj7 l0 t204 (t215 != t204) t198 t201 t202 t203 t209 t212 t213 t214) else (laws_FnExactNewConsole.j1 kj7 l0 t204 true t198 t201 t202 t203 t209 t212 t213 t214))))) else (some false)) = some r := H
      have A34 := Aside0.mk A340
      clear A340
      by_cases c35 : t221 = true
      ·
       subst c35
       have H1 : ((laws_markWarningS.f kj7 t206 1).bind fun bt222 => (if bt222.1 < 0 then (laws_FnExactNewConsole.j1 kj7 l0 t204 true t198 t201 t202 t203 t209 t212 t213 t214) else ((laws_eqConsole.f kj7 t209 t212 t213 t214 t198 t201 t202 t203).bind fun t224 => (if t224 = true then (laws_FnExactNewConsole.j1 kj7 l0 t204 (t215 != t204) t198 t201 t202 t203 t209 t212 t213 t214) else (laws_FnExactNewConsole.j1 kj7 l0 t204 true t198 t201 t202 t203 t209 t212 t213 t214))))) = some r := by rw [if_pos rfl] at H; exact H
       clear H
       have H := H1
       clear H1
       replace H := Option.bind_eq_some_iff.mp H
       obtain ⟨⟨t222, t223⟩, A360, H⟩ := H
       replace H : (if t222 < 0 then (laws_FnExactNewConsole.j1 kj7 l0 t204 true t198 t201 t202 t203 t209 t212 t213 t214) else ((laws_eqConsole.f kj7 t209 t212 t213 t214 t198 t201 t202 t203).bind fun t224 => (if t224 = true then (laws_FnExactNewConsole.j1 kj7 l0 t204 (t215 != t204) t198 t201 t202 t203 t209 t212 t213 t214) else (laws_FnExactNewConsole.j1 kj7 l0 t204 true t198 t201 t202 t203 t209 t212 t213 t214)))) = some r := H
       have A36 := Aside0.mk A360
       clear A360
       have HC37 := Aside0.mk H
       clear H
       go_upto_region 14 with (first | ((with_reducible refine gate_callee (f := 6) rfl ?_); refine goesL_ (some 43) rfl rfl Try.func6 (by kernel_rfl) rfl #[.slice A0 l0.length c0] rfl (by (try simp only [List.map_toArray, List.map_cons, List.map_nil]); first | done | rfl | (simp only [List.length_drop, List.length_take]; rfl)) ?_; (with_reducible refine (laws_toWarningS.calls kj7 _ _ l0 t218 _ ?side1 ?side2 A33.out).mono ?_); (case side1 => repeat (first | exact (Kd.C_below HR0.out HB.out) | (with_reducible refine Kd.C_alloc ?_ _) | (with_reducible refine Kd.C_drewN ?_ _) | (with_reducible refine Kd.C_drew ?_))); (case side2 => exact HC0.out); rintro e w38 ⟨v219, rfl, ho0, hb⟩; refine ⟨_, rfl, ?_⟩; have n0_ := Aside0.mk (Kd.R_elder' (by (with_reducible repeat (first | apply Kd.R_alloc | apply Kd.R_drewN | apply Kd.R_drew)); exact HO_6.out) (Kd.R_base ho0) hb); have n1_ := Aside0.mk (Kd.R_elder' (by (with_reducible repeat (first | apply Kd.R_alloc | apply Kd.R_drewN | apply Kd.R_drew)); exact HO_206000.out) (Kd.R_base ho0) hb); have n2_ := Aside0.mk (Kd.R_elder' (by (with_reducible repeat (first | apply Kd.R_alloc | apply Kd.R_drewN | apply Kd.R_drew)); exact HO_217000.out) (Kd.R_base ho0) hb); have n3_ := Aside0.mk (Kd.R_lower (Kd.R_new' (Kd.R_new' (Kd.R_new' ho0 (Kd.R_lt (by (with_reducible repeat (first | apply Kd.R_alloc | apply Kd.R_drewN | apply Kd.R_drew)); exact HO_6.out))) (Kd.R_lt (by (with_reducible repeat (first | apply Kd.R_alloc | apply Kd.R_drewN | apply Kd.R_drew)); exact HO_206000.out))) (Kd.R_lt (by (with_reducible repeat (first | apply Kd.R_alloc | apply Kd.R_drewN | apply Kd.R_drew)); exact HO_217000.out))) (below_size (by repeat (first | (with_reducible first | exact HB.out | apply below_alloc | apply pw_below_drewN | apply below_drew1 | refine below_set ?_ GE205.out | refine below_set ?_ GE216.out) | exact HB.out)))); have n4_ := Aside0.mk (blk_below (g := gb205) (o := .cells #[.slice Ao13 t198.length co13, .string t201, .string t202, .int .i64 t203] 28 (0, 0)) BK205.out hb); have n5_ := Aside0.mk (blk_below (g := gb216) (o := .cells #[.slice Ao19 t209.length co19, .string t212, .string t213, .int .i64 t214] 28 (0, 0)) BK216.out hb); have n6_ := Aside0.mk (below_step (by repeat (first | (with_reducible first | exact HB.out | apply below_alloc | apply pw_below_drewN | apply below_drew1 | refine below_set ?_ GE205.out | refine below_set ?_ GE216.out) | exact HB.out)) hb); clear HO_6; clear HO_206000; clear HO_217000; clear BK205; clear BK216; clear HB; have HO_6 := n0_; have HO_206000 := n1_; have HO_217000 := n2_; have HO220 := n3_; have BK205 := n4_; have BK216 := n5_; have HB := n6_; clear n0_ n1_ n2_ n3_ n4_ n5_ n6_; (try clear hb); (try clear hb2); (try clear hk); (try clear hi); (try clear ho0); obtain ⟨Ao39, co39, eo39⟩ := Kd.R_slice HO220.out; subst eo39) | ((with_reducible refine gate_callee (f := 9) rfl ?_); refine goesL_ (some 44) rfl rfl Try.func9 (by kernel_rfl) rfl #[.slice Ao16 t206.length co16, .slice Ao39 t218.length co39] rfl (by (try simp only [List.map_toArray, List.map_cons, List.map_nil]); first | done | rfl | (simp only [List.length_drop, List.length_take]; rfl)) ?_; (with_reducible refine (laws_eqWarningS.calls kj7 _ _ t206 _ _ t218 true _ ?side1 ?side2 ?side3 ?side4 A34.out).mono ?_); (case side1 => repeat (first | exact (Kd.R_reads' HO_6.out).2.2 | (with_reducible refine Kd.C_alloc ?_ _) | (with_reducible refine Kd.C_drewN ?_ _) | (with_reducible refine Kd.C_drew ?_))); (case side2 => exact (Kd.R_reads' HO_6.out).2.1); (case side3 => repeat (first | exact (Kd.R_reads' HO220.out).2.2 | (with_reducible refine Kd.C_alloc ?_ _) | (with_reducible refine Kd.C_drewN ?_ _) | (with_reducible refine Kd.C_drew ?_))); (case side4 => exact (Kd.R_reads' HO220.out).2.1); rintro e w40 ⟨rfl, hb⟩; refine ⟨_, rfl, ?_⟩; have n0_ := Aside0.mk (Kd.R_below (by (with_reducible repeat (first | apply Kd.R_alloc | apply Kd.R_drewN | apply Kd.R_drew)); exact HO_6.out) hb); have n1_ := Aside0.mk (Kd.R_below (by (with_reducible repeat (first | apply Kd.R_alloc | apply Kd.R_drewN | apply Kd.R_drew)); exact HO_206000.out) hb); have n2_ := Aside0.mk (Kd.R_below (by (with_reducible repeat (first | apply Kd.R_alloc | apply Kd.R_drewN | apply Kd.R_drew)); exact HO_217000.out) hb); have n3_ := Aside0.mk (Kd.R_below (by (with_reducible repeat (first | apply Kd.R_alloc | apply Kd.R_drewN | apply Kd.R_drew)); exact HO220.out) hb); have n4_ := Aside0.mk (blk_below (g := gb205) (o := .cells #[.slice Ao13 t198.length co13, .string t201, .string t202, .int .i64 t203] 28 (0, 0)) BK205.out hb); have n5_ := Aside0.mk (blk_below (g := gb216) (o := .cells #[.slice Ao19 t209.length co19, .string t212, .string t213, .int .i64 t214] 28 (0, 0)) BK216.out hb); have n6_ := Aside0.mk (below_step (by repeat (first | (with_reducible first | exact HB.out | apply below_alloc | apply pw_below_drewN | apply below_drew1 | refine below_set ?_ GE205.out | refine below_set ?_ GE216.out) | exact HB.out)) hb); clear HO_6; clear HO_206000; clear HO_217000; clear HO220; clear BK205; clear BK216; clear HB; have HO_6 := n0_; have HO_206000 := n1_; have HO_217000 := n2_; have HO220 := n3_; have BK205 := n4_; have BK216 := n5_; have HB := n6_; clear n0_ n1_ n2_ n3_ n4_ n5_ n6_; (try clear hb); (try clear hb2); (try clear hk); (try clear hi)) | ((with_reducible refine gate_callee (f := 10) rfl ?_); refine goesL_ (some 48) rfl rfl Try.func10 (by kernel_rfl) rfl #[.slice Ao16 t206.length co16, .int .i64 1] rfl (by (try simp only [List.map_toArray, List.map_cons, List.map_nil]); first | done | rfl | (simp only [List.length_drop, List.length_take]; rfl)) ?_; (with_reducible refine (laws_markWarningS.calls kj7 (fun k_ => some k_ = (.slice Ao16 t206.length co16 : Value).ownBlock) (.slice Ao16 t206.length co16) t206 1 t222 t223 w _ ?side1 ?side2 A36.out).mono ?_); (case side1 => repeat (first | (with_reducible first | exact HB.out | apply below_alloc | apply pw_below_drewN | apply below_drew1 | refine below_set ?_ GE205.out | refine below_set ?_ GE216.out) | exact HB.out)); (case side2 => exact Kd.R_tight rfl HO_6.out); rintro e w41 ⟨rfl, hy0, hb, hkp⟩; refine ⟨_, rfl, ?_⟩; have n0_ := Aside0.mk (Kd.R_reok rfl hy0 (fun k_ e_ => HO_6.out.1 k_ e_)); have n1_ := Aside0.mk (Kd.R_mono (ok' := fun k_ => some k_ ≠ (.slice Ao16 t206.length co16 : Value).ownBlock ∧ some k_ ≠ (.slice Ao19 t209.length co19 : Value).ownBlock ∧ some k_ ≠ (.slice Ao39 t218.length co39 : Value).ownBlock) (Kd.R_keptB (HO_206000.out) hkp (fun k_ hk_ hs_ => (hk_.1.1) hs_)) (fun k_ hk_ => ⟨hk_.1.1.1, hk_.1.1.2, hk_.1.2⟩)); have n2_ := Aside0.mk (Kd.R_mono (ok' := fun k_ => some k_ ≠ (.slice Ao16 t206.length co16 : Value).ownBlock ∧ some k_ ≠ (.slice Ao13 t198.length co13 : Value).ownBlock ∧ some k_ ≠ (.slice Ao39 t218.length co39 : Value).ownBlock) (Kd.R_keptB (HO_217000.out) hkp (fun k_ hk_ hs_ => (hk_.1.1) hs_)) (fun k_ hk_ => ⟨hk_.1.1.1, hk_.1.1.2, hk_.1.2⟩)); have n3_ := Aside0.mk (blk_kept BK205.out hkp (fun hs_ => (fun e_ => (Kd.R_ne HO_6.out BK205.out (by decide)) e_) hs_)); have n4_ := Aside0.mk (blk_kept BK216.out hkp (fun hs_ => (fun e_ => (Kd.R_ne HO_6.out BK216.out (by decide)) e_) hs_)); have n5_ := Aside0.mk (Kd.R_mono (ok' := fun k_ => some k_ ≠ (.slice Ao16 t206.length co16 : Value).ownBlock ∧ some k_ ≠ (.slice Ao13 t198.length co13 : Value).ownBlock ∧ some k_ ≠ (.slice Ao19 t209.length co19 : Value).ownBlock) (Kd.R_keptB (HO220.out) hkp (fun k_ hk_ hs_ => (hk_.1.1.2) hs_)) (fun k_ hk_ => ⟨hk_.1.1.1.2, hk_.1.1.2, hk_.1.2⟩)); have n6_ := Aside0.mk (hb); clear HO_6; clear HO_206000; clear HO_217000; clear BK205; clear BK216; clear HO220; clear HB; have HO_6 := n0_; have HO_206000 := n1_; have HO_217000 := n2_; have BK205 := n3_; have BK216 := n4_; have HO220 := n5_; have HB := n6_; clear n0_ n1_ n2_ n3_ n4_ n5_ n6_; (try clear hb); (try clear hkp); (try clear hy0)))
       (try simp only [Act.put, List.setIfInBounds_toArray, List.set_cons_zero, List.set_cons_succ])
       go_cut [61] (fun v61 wc => ∃ (kq : Nat) (x61_36 : Bool), v61 = .bool x61_36 ∧ Aside0 (laws_FnExactNewConsole.j1 kq l0 t204 x61_36 t198 t201 t202 t203 t209 t212 t213 t214 = some r) ∧ Aside0 (kq ≤ kj7) ∧ Aside0 (Kd.R k40 40 wc w.heap.size (fun k_ => some k_ ≠ ((.slice Ao19 t209.length co19) : Value).ownBlock) (.slice Ao13 t198.length co13) t198) ∧ Aside0 (Kd.R k40 40 wc w.heap.size (fun k_ => some k_ ≠ ((.slice Ao13 t198.length co13) : Value).ownBlock) (.slice Ao19 t209.length co19) t209) ∧ Aside0 (wc.heap[gb205]? = some (.cells #[(.slice Ao13 t198.length co13), .string t201, .string t202, .int .i64 t203] 28 (0, 0))) ∧ Aside0 (wc.heap[gb216]? = some (.cells #[(.slice Ao19 t209.length co19), .string t212, .string t213, .int .i64 t214] 28 (0, 0))) ∧ Aside0 (Below w.heap.size w wc))
       case first =>
        as_aux_lemma =>
         have H := HC37.out
         clear HC37
         by_cases c42 : t222 < 0
         ·
          rw [if_pos c42] at H
          have c42b0 : decide (t222 < 0) = true := decide_eq_true c42
          clear c42
          (first | rw [c42b0] | (simp only [i64_w, i32_w]; rw [c42b0]) | skip)
          have H' := Aside0.mk H
          clear H
          go_wp2
          go_meet
          case rel => exact ⟨_, (true), (by first | rfl | (simp; done) | (simp [*]; done)), H', ⟨by have := HJ7.out; first | omega | exact Nat.le_refl _⟩, ⟨by (with_reducible repeat (first | apply Kd.R_alloc | apply Kd.R_drewN | apply Kd.R_drew)); exact Kd.R_mono HO_206000.out (fun _ hk => hk.2.1)⟩, ⟨by (with_reducible repeat (first | apply Kd.R_alloc | apply Kd.R_drewN | apply Kd.R_drew)); exact Kd.R_mono HO_217000.out (fun _ hk => hk.2.1)⟩, ⟨by (with_reducible repeat (first | refine blk_drewN ?_ _ | refine blk_drew ?_ | refine blk_alloc ?_ _)); exact BK205.out⟩, ⟨by (with_reducible repeat (first | refine blk_drewN ?_ _ | refine blk_drew ?_ | refine blk_alloc ?_ _)); exact BK216.out⟩, ⟨by repeat (first | (with_reducible first | exact HB.out | apply below_alloc | apply pw_below_drewN | apply below_drew1 | refine below_set ?_ GE205.out | refine below_set ?_ GE216.out) | exact HB.out)⟩⟩
         ·
          rw [if_neg c42] at H
          have c42b0 : decide (t222 < 0) = false := decide_eq_false c42
          clear c42
          (first | rw [c42b0] | (simp only [i64_w, i32_w]; rw [c42b0]) | skip)
          replace H := Option.bind_eq_some_iff.mp H
          obtain ⟨t224, A430, H⟩ := H
          replace H : (if t224 = true then (laws_FnExactNewConsole.j1 kj7 l0 t204 (t215 != t204) t198 t201 t202 t203 t209 t212 t213 t214) else (laws_FnExactNewConsole.j1 kj7 l0 t204 true t198 t201 t202 t203 t209 t212 t213 t214)) = some r := H
          have A43 := Aside0.mk A430
          clear A430
          by_cases c44 : t224 = true
          ·
           subst c44
           have H1 : (laws_FnExactNewConsole.j1 kj7 l0 t204 (t215 != t204) t198 t201 t202 t203 t209 t212 t213 t214) = some r := by rw [if_pos rfl] at H; exact H
           clear H
           have H := H1
           clear H1
           have H' := Aside0.mk H
           clear H
           have hnb45 := NB216_205.out
           have hnc45 := NB205_216.out
           have hcz46_0 : w41.cell? ⟨gb216, 0, none⟩ = some (.slice Ao19 t209.length co19) := (blk_cell BK216.out 0).trans rfl
           have hcz46_1 : w41.cell? ⟨gb216, 1, none⟩ = some (.string t212) := (blk_cell BK216.out 1).trans rfl
           have hcz46_2 : w41.cell? ⟨gb216, 2, none⟩ = some (.string t213) := (blk_cell BK216.out 2).trans rfl
           have hcz46_3 : w41.cell? ⟨gb216, 3, none⟩ = some (.int .i64 t214) := (blk_cell BK216.out 3).trans rfl
           have hfz46_0 := blk_frozen BK216.out 0
           have hfz46_1 := blk_frozen BK216.out 1
           have hfz46_2 := blk_frozen BK216.out 2
           have hfz46_3 := blk_frozen BK216.out 3
           have hcz47_0 : w41.cell? ⟨gb205, 0, none⟩ = some (.slice Ao13 t198.length co13) := (blk_cell BK205.out 0).trans rfl
           have hcz47_1 : w41.cell? ⟨gb205, 1, none⟩ = some (.string t201) := (blk_cell BK205.out 1).trans rfl
           have hcz47_2 : w41.cell? ⟨gb205, 2, none⟩ = some (.string t202) := (blk_cell BK205.out 2).trans rfl
           have hcz47_3 : w41.cell? ⟨gb205, 3, none⟩ = some (.int .i64 t203) := (blk_cell BK205.out 3).trans rfl
           have hfz47_0 := blk_frozen BK205.out 0
           have hfz47_1 := blk_frozen BK205.out 1
           have hfz47_2 := blk_frozen BK205.out 2
           have hfz47_3 := blk_frozen BK205.out 3
           go_wp2_with (first | (go_at_call 8; (with_reducible refine (laws_eqConsole.calls kj7 _ _ t209 t212 t213 t214 _ _ t198 t201 t202 t203 true _ ?side1 ?side2 ?side3 ?side4 A43.out).mono ?_); (case side1 => repeat (first | exact (Kd.R_reads' HO_217000.out).2.2 | (with_reducible refine Kd.C_alloc ?_ _) | (with_reducible refine Kd.C_drewN ?_ _) | (with_reducible refine Kd.C_drew ?_))); (case side2 => exact (Kd.R_reads' HO_217000.out).2.1); (case side3 => repeat (first | exact (Kd.R_reads' HO_206000.out).2.2 | (with_reducible refine Kd.C_alloc ?_ _) | (with_reducible refine Kd.C_drewN ?_ _) | (with_reducible refine Kd.C_drew ?_))); (case side4 => exact (Kd.R_reads' HO_206000.out).2.1); rintro e w48 ⟨rfl, hb⟩; have n0_ := Aside0.mk (Kd.R_below (by (with_reducible repeat (first | apply Kd.R_alloc | apply Kd.R_drewN | apply Kd.R_drew)); exact HO_6.out) hb); have n1_ := Aside0.mk (Kd.R_below (by (with_reducible repeat (first | apply Kd.R_alloc | apply Kd.R_drewN | apply Kd.R_drew)); exact HO_206000.out) hb); have n2_ := Aside0.mk (Kd.R_below (by (with_reducible repeat (first | apply Kd.R_alloc | apply Kd.R_drewN | apply Kd.R_drew)); exact HO_217000.out) hb); have n3_ := Aside0.mk (Kd.R_below (by (with_reducible repeat (first | apply Kd.R_alloc | apply Kd.R_drewN | apply Kd.R_drew)); exact HO220.out) hb); have n4_ := Aside0.mk (blk_below (g := gb205) (o := .cells #[.slice Ao13 t198.length co13, .string t201, .string t202, .int .i64 t203] 28 (0, 0)) BK205.out hb); have n5_ := Aside0.mk (blk_below (g := gb216) (o := .cells #[.slice Ao19 t209.length co19, .string t212, .string t213, .int .i64 t214] 28 (0, 0)) BK216.out hb); have n6_ := Aside0.mk (below_step (by repeat (first | (with_reducible first | exact HB.out | apply below_alloc | apply pw_below_drewN | apply below_drew1 | refine below_set ?_ GE205.out | refine below_set ?_ GE216.out) | exact HB.out)) hb); clear HO_6; clear HO_206000; clear HO_217000; clear HO220; clear BK205; clear BK216; clear HB; have HO_6 := n0_; have HO_206000 := n1_; have HO_217000 := n2_; have HO220 := n3_; have BK205 := n4_; have BK216 := n5_; have HB := n6_; clear n0_ n1_ n2_ n3_ n4_ n5_ n6_; (try clear hb); (try clear hb2); (try clear hk); (try clear hi)))
           go_meet
           case rel => exact ⟨_, ((t215 != t204)), (by first | rfl | (simp; done) | (simp [*]; done)), H', ⟨by have := HJ7.out; first | omega | exact Nat.le_refl _⟩, ⟨by (with_reducible repeat (first | apply Kd.R_alloc | apply Kd.R_drewN | apply Kd.R_drew)); exact Kd.R_mono HO_206000.out (fun _ hk => hk.2.1)⟩, ⟨by (with_reducible repeat (first | apply Kd.R_alloc | apply Kd.R_drewN | apply Kd.R_drew)); exact Kd.R_mono HO_217000.out (fun _ hk => hk.2.1)⟩, ⟨by (with_reducible repeat (first | refine blk_drewN ?_ _ | refine blk_drew ?_ | refine blk_alloc ?_ _)); exact BK205.out⟩, ⟨by (with_reducible repeat (first | refine blk_drewN ?_ _ | refine blk_drew ?_ | refine blk_alloc ?_ _)); exact BK216.out⟩, ⟨by repeat (first | (with_reducible first | exact HB.out | apply below_alloc | apply pw_below_drewN | apply below_drew1 | refine below_set ?_ GE205.out | refine below_set ?_ GE216.out) | exact HB.out)⟩⟩
          ·
           replace c44 := Bool.eq_false_iff.mpr c44
           subst c44
           have H1 : (laws_FnExactNewConsole.j1 kj7 l0 t204 true t198 t201 t202 t203 t209 t212 t213 t214) = some r := by rw [if_neg (show ¬ (false = true) by decide)] at H; exact H
           clear H
           have H := H1
           clear H1
           have H' := Aside0.mk H
           clear H
           have hnb49 := NB216_205.out
           have hnc49 := NB205_216.out
           have hcz50_0 : w41.cell? ⟨gb216, 0, none⟩ = some (.slice Ao19 t209.length co19) := (blk_cell BK216.out 0).trans rfl
           have hcz50_1 : w41.cell? ⟨gb216, 1, none⟩ = some (.string t212) := (blk_cell BK216.out 1).trans rfl
           have hcz50_2 : w41.cell? ⟨gb216, 2, none⟩ = some (.string t213) := (blk_cell BK216.out 2).trans rfl
           have hcz50_3 : w41.cell? ⟨gb216, 3, none⟩ = some (.int .i64 t214) := (blk_cell BK216.out 3).trans rfl
           have hfz50_0 := blk_frozen BK216.out 0
           have hfz50_1 := blk_frozen BK216.out 1
           have hfz50_2 := blk_frozen BK216.out 2
           have hfz50_3 := blk_frozen BK216.out 3
           have hcz51_0 : w41.cell? ⟨gb205, 0, none⟩ = some (.slice Ao13 t198.length co13) := (blk_cell BK205.out 0).trans rfl
           have hcz51_1 : w41.cell? ⟨gb205, 1, none⟩ = some (.string t201) := (blk_cell BK205.out 1).trans rfl
           have hcz51_2 : w41.cell? ⟨gb205, 2, none⟩ = some (.string t202) := (blk_cell BK205.out 2).trans rfl
           have hcz51_3 : w41.cell? ⟨gb205, 3, none⟩ = some (.int .i64 t203) := (blk_cell BK205.out 3).trans rfl
           have hfz51_0 := blk_frozen BK205.out 0
           have hfz51_1 := blk_frozen BK205.out 1
           have hfz51_2 := blk_frozen BK205.out 2
           have hfz51_3 := blk_frozen BK205.out 3
           go_wp2_with (first | (go_at_call 8; (with_reducible refine (laws_eqConsole.calls kj7 _ _ t209 t212 t213 t214 _ _ t198 t201 t202 t203 false _ ?side1 ?side2 ?side3 ?side4 A43.out).mono ?_); (case side1 => repeat (first | exact (Kd.R_reads' HO_217000.out).2.2 | (with_reducible refine Kd.C_alloc ?_ _) | (with_reducible refine Kd.C_drewN ?_ _) | (with_reducible refine Kd.C_drew ?_))); (case side2 => exact (Kd.R_reads' HO_217000.out).2.1); (case side3 => repeat (first | exact (Kd.R_reads' HO_206000.out).2.2 | (with_reducible refine Kd.C_alloc ?_ _) | (with_reducible refine Kd.C_drewN ?_ _) | (with_reducible refine Kd.C_drew ?_))); (case side4 => exact (Kd.R_reads' HO_206000.out).2.1); rintro e w52 ⟨rfl, hb⟩; have n0_ := Aside0.mk (Kd.R_below (by (with_reducible repeat (first | apply Kd.R_alloc | apply Kd.R_drewN | apply Kd.R_drew)); exact HO_6.out) hb); have n1_ := Aside0.mk (Kd.R_below (by (with_reducible repeat (first | apply Kd.R_alloc | apply Kd.R_drewN | apply Kd.R_drew)); exact HO_206000.out) hb); have n2_ := Aside0.mk (Kd.R_below (by (with_reducible repeat (first | apply Kd.R_alloc | apply Kd.R_drewN | apply Kd.R_drew)); exact HO_217000.out) hb); have n3_ := Aside0.mk (Kd.R_below (by (with_reducible repeat (first | apply Kd.R_alloc | apply Kd.R_drewN | apply Kd.R_drew)); exact HO220.out) hb); have n4_ := Aside0.mk (blk_below (g := gb205) (o := .cells #[.slice Ao13 t198.length co13, .string t201, .string t202, .int .i64 t203] 28 (0, 0)) BK205.out hb); have n5_ := Aside0.mk (blk_below (g := gb216) (o := .cells #[.slice Ao19 t209.length co19, .string t212, .string t213, .int .i64 t214] 28 (0, 0)) BK216.out hb); have n6_ := Aside0.mk (below_step (by repeat (first | (with_reducible first | exact HB.out | apply below_alloc | apply pw_below_drewN | apply below_drew1 | refine below_set ?_ GE205.out | refine below_set ?_ GE216.out) | exact HB.out)) hb); clear HO_6; clear HO_206000; clear HO_217000; clear HO220; clear BK205; clear BK216; clear HB; have HO_6 := n0_; have HO_206000 := n1_; have HO_217000 := n2_; have HO220 := n3_; have BK205 := n4_; have BK216 := n5_; have HB := n6_; clear n0_ n1_ n2_ n3_ n4_ n5_ n6_; (try clear hb); (try clear hb2); (try clear hk); (try clear hi)))
           go_meet
           case rel => exact ⟨_, (true), (by first | rfl | (simp; done) | (simp [*]; done)), H', ⟨by have := HJ7.out; first | omega | exact Nat.le_refl _⟩, ⟨by (with_reducible repeat (first | apply Kd.R_alloc | apply Kd.R_drewN | apply Kd.R_drew)); exact Kd.R_mono HO_206000.out (fun _ hk => hk.2.1)⟩, ⟨by (with_reducible repeat (first | apply Kd.R_alloc | apply Kd.R_drewN | apply Kd.R_drew)); exact Kd.R_mono HO_217000.out (fun _ hk => hk.2.1)⟩, ⟨by (with_reducible repeat (first | refine blk_drewN ?_ _ | refine blk_drew ?_ | refine blk_alloc ?_ _)); exact BK205.out⟩, ⟨by (with_reducible repeat (first | refine blk_drewN ?_ _ | refine blk_drew ?_ | refine blk_alloc ?_ _)); exact BK216.out⟩, ⟨by repeat (first | (with_reducible first | exact HB.out | apply below_alloc | apply pw_below_drewN | apply below_drew1 | refine below_set ?_ GE205.out | refine below_set ?_ GE216.out) | exact HB.out)⟩⟩
       case rest =>
        as_aux_lemma =>
         clear HC37
         try clear c1
         try clear c2
         try clear p2
         try clear c3
         try clear c3b0
         try clear c4
         try clear c5
         try clear c6
         try clear c7
         try clear c8
         try clear c9
         try clear c10
         try clear c20
         try clear c23
         try clear c24
         try clear c28
         try clear c32
         try clear c35
         try clear c42
         try clear c42b0
         try clear c44
         try clear c45
         try clear c49
         try clear hcz14_0
         try clear hcz14_1
         try clear hcz14_2
         try clear hcz14_3
         try clear hcz21_0
         try clear hcz21_1
         try clear hcz21_2
         try clear hcz21_3
         try clear hcz25_0
         try clear hcz25_1
         try clear hcz25_2
         try clear hcz25_3
         try clear hcz26_0
         try clear hcz26_1
         try clear hcz26_2
         try clear hcz26_3
         try clear hcz29_0
         try clear hcz29_1
         try clear hcz29_2
         try clear hcz29_3
         try clear hcz30_0
         try clear hcz30_1
         try clear hcz30_2
         try clear hcz30_3
         try clear hcz46_0
         try clear hcz46_1
         try clear hcz46_2
         try clear hcz46_3
         try clear hcz47_0
         try clear hcz47_1
         try clear hcz47_2
         try clear hcz47_3
         try clear hcz50_0
         try clear hcz50_1
         try clear hcz50_2
         try clear hcz50_3
         try clear hcz51_0
         try clear hcz51_1
         try clear hcz51_2
         try clear hcz51_3
         try clear hfz14_0
         try clear hfz14_1
         try clear hfz14_2
         try clear hfz14_3
         try clear hfz21_0
         try clear hfz21_1
         try clear hfz21_2
         try clear hfz21_3
         try clear hfz25_0
         try clear hfz25_1
         try clear hfz25_2
         try clear hfz25_3
         try clear hfz26_0
         try clear hfz26_1
         try clear hfz26_2
         try clear hfz26_3
         try clear hfz29_0
         try clear hfz29_1
         try clear hfz29_2
         try clear hfz29_3
         try clear hfz30_0
         try clear hfz30_1
         try clear hfz30_2
         try clear hfz30_3
         try clear hfz46_0
         try clear hfz46_1
         try clear hfz46_2
         try clear hfz46_3
         try clear hfz47_0
         try clear hfz47_1
         try clear hfz47_2
         try clear hfz47_3
         try clear hfz50_0
         try clear hfz50_1
         try clear hfz50_2
         try clear hfz50_3
         try clear hfz51_0
         try clear hfz51_1
         try clear hfz51_2
         try clear hfz51_3
         try clear p2
         obtain ⟨kq, x61_36, rfl, HA, HJ36, HO_206000, HO_217000, BK205, BK216, HB⟩ := hcut
         cases kq with
         | zero => exact absurd HA.out (by simp [laws_FnExactNewConsole.j1])
         | succ kj36 =>
          have H := HA.out
          clear HA
          simp only [laws_FnExactNewConsole.j1] at H
          by_cases c53 : x61_36 = true
          ·
           subst c53
           have H1 : (some false) = some r := by rw [if_pos rfl] at H; exact H
           exact absurd ((Option.some.inj H1).trans hrt_) (by decide)
          ·
           replace c53 := Bool.eq_false_iff.mpr c53
           subst c53
           have H1 : ((laws_markConsole.f kj36 t209 t212 t213 t214 1).bind fun bt225 => ((laws_heldConsole.f kj36 bt225.2 t212 t213 t214 1).bind fun t227 => (if t227 < 0 then (some false) else (if t227 = bt225.1 then ((laws_toWarningS.f kj36 l0).bind fun t228 => ((impl_NewConsole.f kj36 t228).bind fun bt231 => ((laws_eqConsole.f kj36 bt231.1 bt231.2.1 bt231.2.2.1 bt231.2.2.2.1 t198 t201 t202 t203).bind fun t239 => (if t239 = true then (laws_FnExactNewConsole.j2 kj36 bt225.1 (bt231.2.2.2.2 != t204) bt225.2 t212 t213 t214) else (laws_FnExactNewConsole.j2 kj36 bt225.1 true bt225.2 t212 t213 t214))))) else (some false))))) = some r := by rw [if_neg (show ¬ (false = true) by decide)] at H; exact H
           clear H
           have H := H1
           clear H1
           replace H := Option.bind_eq_some_iff.mp H
           obtain ⟨⟨t225, t226⟩, A540, H⟩ := H
           replace H : ((laws_heldConsole.f kj36 t226 t212 t213 t214 1).bind fun t227 => (if t227 < 0 then (some false) else (if t227 = t225 then ((laws_toWarningS.f kj36 l0).bind fun t228 => ((impl_NewConsole.f kj36 t228).bind fun bt231 => ((laws_eqConsole.f kj36 bt231.1 bt231.2.1 bt231.2.2.1 bt231.2.2.2.1 t198 t201 t202 t203).bind fun t239 => (if t239 = true then (laws_FnExactNewConsole.j2 kj36 t225 (bt231.2.2.2.2 != t204) t226 t212 t213 t214) else (laws_FnExactNewConsole.j2 kj36 t225 true t226 t212 t213 t214))))) else (some false)))) = some r := H
           have A54 := Aside0.mk A540
           clear A540
           replace H := Option.bind_eq_some_iff.mp H
           obtain ⟨t227, A550, H⟩ := H
           replace H : (if t227 < 0 then (some false) else (if t227 = t225 then ((laws_toWarningS.f kj36 l0).bind fun t228 => ((impl_NewConsole.f kj36 t228).bind fun bt231 => ((laws_eqConsole.f kj36 bt231.1 bt231.2.1 bt231.2.2.1 bt231.2.2.2.1 t198 t201 t202 t203).bind fun t239 => (if t239 = true then (laws_FnExactNewConsole.j2 kj36 t225 (bt231.2.2.2.2 != t204) t226 t212 t213 t214) else (laws_FnExactNewConsole.j2 kj36 t225 true t226 t212 t213 t214))))) else (some false))) = some r := H
           have A55 := Aside0.mk A550
           clear A550
           by_cases c56 : t227 < 0
           ·
            rw [if_pos c56] at H
            have c56b0 : decide (t227 < 0) = true := decide_eq_true c56
            clear c56
            obtain rfl := Option.some.inj H
            have hnb57 := NB216_205.out
            have hnc57 := NB205_216.out
            have hcz58_0 : wc.cell? ⟨gb216, 0, none⟩ = some (.slice Ao19 t209.length co19) := (blk_cell BK216.out 0).trans rfl
            have hcz58_1 : wc.cell? ⟨gb216, 1, none⟩ = some (.string t212) := (blk_cell BK216.out 1).trans rfl
            have hcz58_2 : wc.cell? ⟨gb216, 2, none⟩ = some (.string t213) := (blk_cell BK216.out 2).trans rfl
            have hcz58_3 : wc.cell? ⟨gb216, 3, none⟩ = some (.int .i64 t214) := (blk_cell BK216.out 3).trans rfl
            have hfz58_0 := blk_frozen BK216.out 0
            have hfz58_1 := blk_frozen BK216.out 1
            have hfz58_2 := blk_frozen BK216.out 2
            have hfz58_3 := blk_frozen BK216.out 3
            go_wp2_with (first | ((with_reducible refine gate_callee (f := 11) rfl ?_); refine goesL_ (some 64) rfl rfl Try.func11 (by kernel_rfl) rfl #[.agg #[.slice Ao19 t209.length co19, .string t212, .string t213, .int .i64 t214], .int .i64 1] rfl (by (try simp only [List.map_toArray, List.map_cons, List.map_nil]); first | done | rfl | (simp only [List.length_drop, List.length_take]; rfl)) ?_; (with_reducible refine (laws_markConsole.calls kj36 (fun k_ => some k_ = (.slice Ao19 t209.length co19 : Value).ownBlock) (.slice Ao19 t209.length co19) t209 t212 t213 t214 1 t225 t226 w _ ?side1 ?side2 A54.out).mono ?_); (case side1 => repeat (first | (with_reducible first | exact HB.out | apply below_alloc | apply pw_below_drewN | apply below_drew1 | refine below_set ?_ GE205.out | refine below_set ?_ GE216.out) | exact HB.out)); (case side2 => exact Kd.R_tight rfl HO_217000.out); rintro e w59 ⟨rfl, hy0, hb, hkp⟩; refine ⟨_, rfl, ?_⟩; have n0_ := Aside0.mk (Kd.R_mono (ok' := fun k_ => some k_ ≠ (.slice Ao19 t209.length co19 : Value).ownBlock) (Kd.R_keptB (HO_206000.out) hkp (fun k_ hk_ hs_ => (hk_) hs_)) (fun k_ hk_ => hk_.1)); have n1_ := Aside0.mk (Kd.R_reok rfl hy0 (fun k_ e_ => HO_217000.out.1 k_ e_)); have n2_ := Aside0.mk (blk_kept BK205.out hkp (fun hs_ => (fun e_ => (Kd.R_ne HO_217000.out BK205.out (by decide)) e_) hs_)); have n3_ := Aside0.mk (blk_kept BK216.out hkp (fun hs_ => (fun e_ => (Kd.R_ne HO_217000.out BK216.out (by decide)) e_) hs_)); have n4_ := Aside0.mk (hb); clear HO_206000; clear HO_217000; clear BK205; clear BK216; clear HB; have HO_206000 := n0_; have HO_217000 := n1_; have BK205 := n2_; have BK216 := n3_; have HB := n4_; clear n0_ n1_ n2_ n3_ n4_; (try clear hb); (try clear hkp); (try clear hy0); have hcz60_0 : w59.cell? ⟨gb216, 0, none⟩ = some (.slice Ao19 t209.length co19) := (blk_cell BK216.out 0).trans rfl; have hcz60_1 : w59.cell? ⟨gb216, 1, none⟩ = some (.string t212) := (blk_cell BK216.out 1).trans rfl; have hcz60_2 : w59.cell? ⟨gb216, 2, none⟩ = some (.string t213) := (blk_cell BK216.out 2).trans rfl; have hcz60_3 : w59.cell? ⟨gb216, 3, none⟩ = some (.int .i64 t214) := (blk_cell BK216.out 3).trans rfl; have hfz60_0 := blk_frozen BK216.out 0; have hfz60_1 := blk_frozen BK216.out 1; have hfz60_2 := blk_frozen BK216.out 2; have hfz60_3 := blk_frozen BK216.out 3) | ((with_reducible refine gate_callee (f := 12) rfl ?_); refine goesL_ (some 67) rfl rfl Try.func12 (by kernel_rfl) rfl #[.agg #[.slice Ao19 t226.length co19, .string t212, .string t213, .int .i64 t214], .int .i64 1] rfl (by (try simp only [List.map_toArray, List.map_cons, List.map_nil]); first | done | (rw [show t226.length = t209.length from (Kd.R_reads' HO_217000.out).1.symm] <;> rfl) | rfl | (simp only [List.length_drop, List.length_take]; rfl)) ?_; (with_reducible refine (laws_heldConsole.calls kj36 _ _ t226 t212 t213 t214 1 t227 _ ?side1 ?side2 A55.out).mono ?_); (case side1 => repeat (first | exact (Kd.R_reads' HO_217000.out).2.2 | (with_reducible refine Kd.C_alloc ?_ _) | (with_reducible refine Kd.C_drewN ?_ _) | (with_reducible refine Kd.C_drew ?_))); (case side2 => rw [show t226.length = t209.length from (Kd.R_reads' HO_217000.out).1.symm]; exact (Kd.R_reads' HO_217000.out).2.1); rintro e w61 ⟨rfl, hb⟩; refine ⟨_, rfl, ?_⟩; have n0_ := Aside0.mk (Kd.R_below (by (with_reducible repeat (first | apply Kd.R_alloc | apply Kd.R_drewN | apply Kd.R_drew)); exact HO_206000.out) hb); have n1_ := Aside0.mk (Kd.R_below (by (with_reducible repeat (first | apply Kd.R_alloc | apply Kd.R_drewN | apply Kd.R_drew)); exact HO_217000.out) hb); have n2_ := Aside0.mk (blk_below (g := gb205) (o := .cells #[.slice Ao13 t198.length co13, .string t201, .string t202, .int .i64 t203] 28 (0, 0)) BK205.out hb); have n3_ := Aside0.mk (blk_below (g := gb216) (o := .cells #[.slice Ao19 t209.length co19, .string t212, .string t213, .int .i64 t214] 28 (0, 0)) BK216.out hb); have n4_ := Aside0.mk (below_step (by repeat (first | (with_reducible first | exact HB.out | apply below_alloc | apply pw_below_drewN | apply below_drew1 | refine below_set ?_ GE205.out | refine below_set ?_ GE216.out) | exact HB.out)) hb); clear HO_206000; clear HO_217000; clear BK205; clear BK216; clear HB; have HO_206000 := n0_; have HO_217000 := n1_; have BK205 := n2_; have BK216 := n3_; have HB := n4_; clear n0_ n1_ n2_ n3_ n4_; (try clear hb); (try clear hb2); (try clear hk); (try clear hi)))
            go_ret
            exact ⟨by first | rfl | (simp [errW_none, errW_some] <;> rfl) | (simp [*, errW_none, errW_some] <;> rfl), by repeat (first | (with_reducible first | exact HB.out | apply below_alloc | apply pw_below_drewN | apply below_drew1 | refine below_set ?_ GE205.out | refine below_set ?_ GE216.out) | exact HB.out)⟩
           ·
            rw [if_neg c56] at H
            have c56b0 : decide (t227 < 0) = false := decide_eq_false c56
            clear c56
            by_cases c62 : t227 = t225
            ·
             rw [if_pos c62] at H
             have c62b0 : (t227 == t225) = true := beq_iff_eq.mpr c62
             have c62b1 : (t227 != t225) = false := bne_eq_false_iff_eq.mpr c62
             clear c62
             replace H := Option.bind_eq_some_iff.mp H
             obtain ⟨t228, A630, H⟩ := H
             replace H : ((impl_NewConsole.f kj36 t228).bind fun bt231 => ((laws_eqConsole.f kj36 bt231.1 bt231.2.1 bt231.2.2.1 bt231.2.2.2.1 t198 t201 t202 t203).bind fun t239 => (if t239 = true then (laws_FnExactNewConsole.j2 kj36 t225 (bt231.2.2.2.2 != t204) t226 t212 t213 t214) else (laws_FnExactNewConsole.j2 kj36 t225 true t226 t212 t213 t214)))) = some r := H
             have A63 := Aside0.mk A630
             clear A630
             replace H := Option.bind_eq_some_iff.mp H
             obtain ⟨⟨t231, t234, t235, t236, t237⟩, A640, H⟩ := H
             replace H : ((laws_eqConsole.f kj36 t231 t234 t235 t236 t198 t201 t202 t203).bind fun t239 => (if t239 = true then (laws_FnExactNewConsole.j2 kj36 t225 (t237 != t204) t226 t212 t213 t214) else (laws_FnExactNewConsole.j2 kj36 t225 true t226 t212 t213 t214))) = some r := H
             have A64 := Aside0.mk A640
             clear A640
             have HC65 := Aside0.mk H
             clear H
             have hnb66 := NB216_205.out
             have hnc66 := NB205_216.out
             have hcz67_0 : wc.cell? ⟨gb216, 0, none⟩ = some (.slice Ao19 t209.length co19) := (blk_cell BK216.out 0).trans rfl
             have hcz67_1 : wc.cell? ⟨gb216, 1, none⟩ = some (.string t212) := (blk_cell BK216.out 1).trans rfl
             have hcz67_2 : wc.cell? ⟨gb216, 2, none⟩ = some (.string t213) := (blk_cell BK216.out 2).trans rfl
             have hcz67_3 : wc.cell? ⟨gb216, 3, none⟩ = some (.int .i64 t214) := (blk_cell BK216.out 3).trans rfl
             have hfz67_0 := blk_frozen BK216.out 0
             have hfz67_1 := blk_frozen BK216.out 1
             have hfz67_2 := blk_frozen BK216.out 2
             have hfz67_3 := blk_frozen BK216.out 3
             go_upto_region 25 with (first | ((with_reducible refine gate_callee (f := 11) rfl ?_); refine goesL_ (some 64) rfl rfl Try.func11 (by kernel_rfl) rfl #[.agg #[.slice Ao19 t209.length co19, .string t212, .string t213, .int .i64 t214], .int .i64 1] rfl (by (try simp only [List.map_toArray, List.map_cons, List.map_nil]); first | done | rfl | (simp only [List.length_drop, List.length_take]; rfl)) ?_; (with_reducible refine (laws_markConsole.calls kj36 (fun k_ => some k_ = (.slice Ao19 t209.length co19 : Value).ownBlock) (.slice Ao19 t209.length co19) t209 t212 t213 t214 1 t225 t226 w _ ?side1 ?side2 A54.out).mono ?_); (case side1 => repeat (first | (with_reducible first | exact HB.out | apply below_alloc | apply pw_below_drewN | apply below_drew1 | refine below_set ?_ GE205.out | refine below_set ?_ GE216.out) | exact HB.out)); (case side2 => exact Kd.R_tight rfl HO_217000.out); rintro e w68 ⟨rfl, hy0, hb, hkp⟩; refine ⟨_, rfl, ?_⟩; have n0_ := Aside0.mk (Kd.R_mono (ok' := fun k_ => some k_ ≠ (.slice Ao19 t209.length co19 : Value).ownBlock) (Kd.R_keptB (HO_206000.out) hkp (fun k_ hk_ hs_ => (hk_) hs_)) (fun k_ hk_ => hk_.1)); have n1_ := Aside0.mk (Kd.R_reok rfl hy0 (fun k_ e_ => HO_217000.out.1 k_ e_)); have n2_ := Aside0.mk (blk_kept BK205.out hkp (fun hs_ => (fun e_ => (Kd.R_ne HO_217000.out BK205.out (by decide)) e_) hs_)); have n3_ := Aside0.mk (blk_kept BK216.out hkp (fun hs_ => (fun e_ => (Kd.R_ne HO_217000.out BK216.out (by decide)) e_) hs_)); have n4_ := Aside0.mk (hb); clear HO_206000; clear HO_217000; clear BK205; clear BK216; clear HB; have HO_206000 := n0_; have HO_217000 := n1_; have BK205 := n2_; have BK216 := n3_; have HB := n4_; clear n0_ n1_ n2_ n3_ n4_; (try clear hb); (try clear hkp); (try clear hy0); have hcz69_0 : w68.cell? ⟨gb216, 0, none⟩ = some (.slice Ao19 t209.length co19) := (blk_cell BK216.out 0).trans rfl; have hcz69_1 : w68.cell? ⟨gb216, 1, none⟩ = some (.string t212) := (blk_cell BK216.out 1).trans rfl; have hcz69_2 : w68.cell? ⟨gb216, 2, none⟩ = some (.string t213) := (blk_cell BK216.out 2).trans rfl; have hcz69_3 : w68.cell? ⟨gb216, 3, none⟩ = some (.int .i64 t214) := (blk_cell BK216.out 3).trans rfl; have hfz69_0 := blk_frozen BK216.out 0; have hfz69_1 := blk_frozen BK216.out 1; have hfz69_2 := blk_frozen BK216.out 2; have hfz69_3 := blk_frozen BK216.out 3) | ((with_reducible refine gate_callee (f := 12) rfl ?_); refine goesL_ (some 67) rfl rfl Try.func12 (by kernel_rfl) rfl #[.agg #[.slice Ao19 t226.length co19, .string t212, .string t213, .int .i64 t214], .int .i64 1] rfl (by (try simp only [List.map_toArray, List.map_cons, List.map_nil]); first | done | (rw [show t226.length = t209.length from (Kd.R_reads' HO_217000.out).1.symm] <;> rfl) | rfl | (simp only [List.length_drop, List.length_take]; rfl)) ?_; (with_reducible refine (laws_heldConsole.calls kj36 _ _ t226 t212 t213 t214 1 t227 _ ?side1 ?side2 A55.out).mono ?_); (case side1 => repeat (first | exact (Kd.R_reads' HO_217000.out).2.2 | (with_reducible refine Kd.C_alloc ?_ _) | (with_reducible refine Kd.C_drewN ?_ _) | (with_reducible refine Kd.C_drew ?_))); (case side2 => rw [show t226.length = t209.length from (Kd.R_reads' HO_217000.out).1.symm]; exact (Kd.R_reads' HO_217000.out).2.1); rintro e w70 ⟨rfl, hb⟩; refine ⟨_, rfl, ?_⟩; have n0_ := Aside0.mk (Kd.R_below (by (with_reducible repeat (first | apply Kd.R_alloc | apply Kd.R_drewN | apply Kd.R_drew)); exact HO_206000.out) hb); have n1_ := Aside0.mk (Kd.R_below (by (with_reducible repeat (first | apply Kd.R_alloc | apply Kd.R_drewN | apply Kd.R_drew)); exact HO_217000.out) hb); have n2_ := Aside0.mk (blk_below (g := gb205) (o := .cells #[.slice Ao13 t198.length co13, .string t201, .string t202, .int .i64 t203] 28 (0, 0)) BK205.out hb); have n3_ := Aside0.mk (blk_below (g := gb216) (o := .cells #[.slice Ao19 t209.length co19, .string t212, .string t213, .int .i64 t214] 28 (0, 0)) BK216.out hb); have n4_ := Aside0.mk (below_step (by repeat (first | (with_reducible first | exact HB.out | apply below_alloc | apply pw_below_drewN | apply below_drew1 | refine below_set ?_ GE205.out | refine below_set ?_ GE216.out) | exact HB.out)) hb); clear HO_206000; clear HO_217000; clear BK205; clear BK216; clear HB; have HO_206000 := n0_; have HO_217000 := n1_; have BK205 := n2_; have BK216 := n3_; have HB := n4_; clear n0_ n1_ n2_ n3_ n4_; (try clear hb); (try clear hb2); (try clear hk); (try clear hi)) | ((with_reducible refine gate_callee (f := 6) rfl ?_); refine goesL_ (some 75) rfl rfl Try.func6 (by kernel_rfl) rfl #[.slice A0 l0.length c0] rfl (by (try simp only [List.map_toArray, List.map_cons, List.map_nil]); first | done | rfl | (simp only [List.length_drop, List.length_take]; rfl)) ?_; (with_reducible refine (laws_toWarningS.calls kj36 _ _ l0 t228 _ ?side1 ?side2 A63.out).mono ?_); (case side1 => repeat (first | exact (Kd.C_below HR0.out HB.out) | (with_reducible refine Kd.C_alloc ?_ _) | (with_reducible refine Kd.C_drewN ?_ _) | (with_reducible refine Kd.C_drew ?_))); (case side2 => exact HC0.out); rintro e w71 ⟨v229, rfl, ho0, hb⟩; refine ⟨_, rfl, ?_⟩; have n0_ := Aside0.mk (Kd.R_elder' (by (with_reducible repeat (first | apply Kd.R_alloc | apply Kd.R_drewN | apply Kd.R_drew)); exact HO_206000.out) (Kd.R_base ho0) hb); have n1_ := Aside0.mk (Kd.R_elder' (by (with_reducible repeat (first | apply Kd.R_alloc | apply Kd.R_drewN | apply Kd.R_drew)); exact HO_217000.out) (Kd.R_base ho0) hb); have n2_ := Aside0.mk (Kd.R_lower (Kd.R_new' (Kd.R_new' ho0 (Kd.R_lt (by (with_reducible repeat (first | apply Kd.R_alloc | apply Kd.R_drewN | apply Kd.R_drew)); exact HO_206000.out))) (Kd.R_lt (by (with_reducible repeat (first | apply Kd.R_alloc | apply Kd.R_drewN | apply Kd.R_drew)); exact HO_217000.out))) (below_size (by repeat (first | (with_reducible first | exact HB.out | apply below_alloc | apply pw_below_drewN | apply below_drew1 | refine below_set ?_ GE205.out | refine below_set ?_ GE216.out) | exact HB.out)))); have n3_ := Aside0.mk (blk_below (g := gb205) (o := .cells #[.slice Ao13 t198.length co13, .string t201, .string t202, .int .i64 t203] 28 (0, 0)) BK205.out hb); have n4_ := Aside0.mk (blk_below (g := gb216) (o := .cells #[.slice Ao19 t209.length co19, .string t212, .string t213, .int .i64 t214] 28 (0, 0)) BK216.out hb); have n5_ := Aside0.mk (below_step (by repeat (first | (with_reducible first | exact HB.out | apply below_alloc | apply pw_below_drewN | apply below_drew1 | refine below_set ?_ GE205.out | refine below_set ?_ GE216.out) | exact HB.out)) hb); clear HO_206000; clear HO_217000; clear BK205; clear BK216; clear HB; have HO_206000 := n0_; have HO_217000 := n1_; have HO230 := n2_; have BK205 := n3_; have BK216 := n4_; have HB := n5_; clear n0_ n1_ n2_ n3_ n4_ n5_; (try clear hb); (try clear hb2); (try clear hk); (try clear hi); (try clear ho0); obtain ⟨Ao72, co72, eo72⟩ := Kd.R_slice HO230.out; subst eo72) | ((with_reducible refine gate_callee (f := 7) rfl ?_); refine goesL_ (some 76) rfl rfl Try.func7 (by kernel_rfl) rfl #[.slice Ao72 t228.length co72] rfl (by (try simp only [List.map_toArray, List.map_cons, List.map_nil]); first | done | rfl | (simp only [List.length_drop, List.length_take]; rfl)) ?_; (with_reducible refine (impl_NewConsole.calls kj36 _ _ t228 t231 t234 t235 t236 t237 _ ?side1 ?side2 A64.out).mono ?_); (case side1 => repeat (first | exact (Kd.R_reads' HO230.out).2.2 | (with_reducible refine Kd.C_alloc ?_ _) | (with_reducible refine Kd.C_drewN ?_ _) | (with_reducible refine Kd.C_drew ?_))); (case side2 => exact (Kd.R_reads' HO230.out).2.1); rintro e w73 ⟨v232, rfl, ho0, hb⟩; refine ⟨_, rfl, ?_⟩; have n0_ := Aside0.mk (Kd.R_elder' (by (with_reducible repeat (first | apply Kd.R_alloc | apply Kd.R_drewN | apply Kd.R_drew)); exact HO_206000.out) (Kd.R_base ho0) hb); have n1_ := Aside0.mk (Kd.R_elder' (by (with_reducible repeat (first | apply Kd.R_alloc | apply Kd.R_drewN | apply Kd.R_drew)); exact HO_217000.out) (Kd.R_base ho0) hb); have n2_ := Aside0.mk (Kd.R_elder' (by (with_reducible repeat (first | apply Kd.R_alloc | apply Kd.R_drewN | apply Kd.R_drew)); exact HO230.out) (Kd.R_base ho0) hb); have n3_ := Aside0.mk (Kd.R_lower (Kd.R_new' (Kd.R_new' (Kd.R_new' ho0 (Kd.R_lt (by (with_reducible repeat (first | apply Kd.R_alloc | apply Kd.R_drewN | apply Kd.R_drew)); exact HO_206000.out))) (Kd.R_lt (by (with_reducible repeat (first | apply Kd.R_alloc | apply Kd.R_drewN | apply Kd.R_drew)); exact HO_217000.out))) (Kd.R_lt (by (with_reducible repeat (first | apply Kd.R_alloc | apply Kd.R_drewN | apply Kd.R_drew)); exact HO230.out))) (below_size (by repeat (first | (with_reducible first | exact HB.out | apply below_alloc | apply pw_below_drewN | apply below_drew1 | refine below_set ?_ GE205.out | refine below_set ?_ GE216.out) | exact HB.out)))); have n4_ := Aside0.mk (blk_below (g := gb205) (o := .cells #[.slice Ao13 t198.length co13, .string t201, .string t202, .int .i64 t203] 28 (0, 0)) BK205.out hb); have n5_ := Aside0.mk (blk_below (g := gb216) (o := .cells #[.slice Ao19 t209.length co19, .string t212, .string t213, .int .i64 t214] 28 (0, 0)) BK216.out hb); have n6_ := Aside0.mk (below_step (by repeat (first | (with_reducible first | exact HB.out | apply below_alloc | apply pw_below_drewN | apply below_drew1 | refine below_set ?_ GE205.out | refine below_set ?_ GE216.out) | exact HB.out)) hb); clear HO_206000; clear HO_217000; clear HO230; clear BK205; clear BK216; clear HB; have HO_206000 := n0_; have HO_217000 := n1_; have HO230 := n2_; have HO233 := n3_; have BK205 := n4_; have BK216 := n5_; have HB := n6_; clear n0_ n1_ n2_ n3_ n4_ n5_ n6_; (try clear hb); (try clear hb2); (try clear hk); (try clear hi); (try clear ho0)) | ((with_reducible refine gate_dst (N := 12) rfl ?_); refine box_event ?hg (N := 12) ?hd (cs := #[.slice none 0 0, .string (⟨#[]⟩ : ByteArray), .string (⟨#[]⟩ : ByteArray), .int .i64 0]) (t := 28) ?hr ?_; (case hd => rfl); (case hg => rfl); (case hr => first | (go_simp; done) | (go_simp; rfl)); intro gb238 hg w74 hbox hb; have n0_ := Aside0.mk (Kd.R_below (by (with_reducible repeat (first | apply Kd.R_alloc | apply Kd.R_drewN | apply Kd.R_drew)); exact HO_206000.out) hb); have n1_ := Aside0.mk (Kd.R_below (by (with_reducible repeat (first | apply Kd.R_alloc | apply Kd.R_drewN | apply Kd.R_drew)); exact HO_217000.out) hb); have n2_ := Aside0.mk (Kd.R_below (by (with_reducible repeat (first | apply Kd.R_alloc | apply Kd.R_drewN | apply Kd.R_drew)); exact HO230.out) hb); have n3_ := Aside0.mk (Kd.R_below (by (with_reducible repeat (first | apply Kd.R_alloc | apply Kd.R_drewN | apply Kd.R_drew)); exact HO233.out) hb); have n4_ := Aside0.mk (blk_below (g := gb205) (o := .cells #[.slice Ao13 t198.length co13, .string t201, .string t202, .int .i64 t203] 28 (0, 0)) BK205.out hb); have n5_ := Aside0.mk (blk_below (g := gb216) (o := .cells #[.slice Ao19 t209.length co19, .string t212, .string t213, .int .i64 t214] 28 (0, 0)) BK216.out hb); have n6_ := Aside0.mk (below_step (by repeat (first | (with_reducible first | exact HB.out | apply below_alloc | apply pw_below_drewN | apply below_drew1 | refine below_set ?_ GE205.out | refine below_set ?_ GE216.out) | exact HB.out)) hb); have n7_ := Aside0.mk (hbox); have n8_ := Aside0.mk ((by rw [hg]; exact (below_size (by repeat (first | (with_reducible first | exact HB.out | apply below_alloc | apply pw_below_drewN | apply below_drew1 | refine below_set ?_ GE205.out | refine below_set ?_ GE216.out) | exact HB.out))) : w.heap.size ≤ gb238)); have n9_ := Aside0.mk ((by rw [hg]; exact (below_size (by repeat (first | (with_reducible first | exact HB.out | apply below_alloc | apply pw_below_drewN | apply below_drew1 | refine below_set ?_ GE205.out | refine below_set ?_ GE216.out) | exact HB.out))) : w.heap.size ≤ gb238)); have n10_ := Aside0.mk ((by rw [hg]; exact Nat.ne_of_lt (blk_lt (g := gb205) (o := .cells #[.slice Ao13 t198.length co13, .string t201, .string t202, .int .i64 t203] 28 (0, 0)) BK205.out) : gb205 ≠ gb238)); have n11_ := Aside0.mk ((by rw [hg]; exact Nat.ne_of_gt (blk_lt (g := gb205) (o := .cells #[.slice Ao13 t198.length co13, .string t201, .string t202, .int .i64 t203] 28 (0, 0)) BK205.out) : gb238 ≠ gb205)); have n12_ := Aside0.mk ((by rw [hg]; exact Nat.ne_of_lt (blk_lt (g := gb216) (o := .cells #[.slice Ao19 t209.length co19, .string t212, .string t213, .int .i64 t214] 28 (0, 0)) BK216.out) : gb216 ≠ gb238)); have n13_ := Aside0.mk ((by rw [hg]; exact Nat.ne_of_gt (blk_lt (g := gb216) (o := .cells #[.slice Ao19 t209.length co19, .string t212, .string t213, .int .i64 t214] 28 (0, 0)) BK216.out) : gb238 ≠ gb216)); clear HO_206000; clear HO_217000; clear HO230; clear HO233; clear BK205; clear BK216; clear HB; have HO_206000 := n0_; have HO_217000 := n1_; have HO230 := n2_; have HO233 := n3_; have BK205 := n4_; have BK216 := n5_; have HB := n6_; have BK238 := n7_; have GW238 := n8_; have GE238 := n9_; have NB205_238 := n10_; have NB238_205 := n11_; have NB216_238 := n12_; have NB238_216 := n13_; clear n0_ n1_ n2_ n3_ n4_ n5_ n6_ n7_ n8_ n9_ n10_ n11_ n12_ n13_; clear hb hbox hg; obtain ⟨Ao75, co75, eo75⟩ := Kd.R_slice HO233.out; subst eo75; have hnb76 := NB238_205.out; have hnc76 := NB205_238.out; have hnb77 := NB238_216.out; have hnc77 := NB216_238.out; have hcz78_0 : w74.cell? ⟨gb238, 0, none⟩ = some (.slice none 0 0) := (blk_cell BK238.out 0).trans rfl; have hcz78_1 : w74.cell? ⟨gb238, 1, none⟩ = some (.string (⟨#[]⟩ : ByteArray)) := (blk_cell BK238.out 1).trans rfl; have hcz78_2 : w74.cell? ⟨gb238, 2, none⟩ = some (.string (⟨#[]⟩ : ByteArray)) := (blk_cell BK238.out 2).trans rfl; have hcz78_3 : w74.cell? ⟨gb238, 3, none⟩ = some (.int .i64 0) := (blk_cell BK238.out 3).trans rfl; have hfz78_0 := blk_frozen BK238.out 0; have hfz78_1 := blk_frozen BK238.out 1; have hfz78_2 := blk_frozen BK238.out 2; have hfz78_3 := blk_frozen BK238.out 3))
             (try simp only [Act.put, List.setIfInBounds_toArray, List.set_cons_zero, List.set_cons_succ])
             go_cut [87] (fun v87 wc => ∃ (kq : Nat) (x87_64 : Bool), v87 = .bool x87_64 ∧ Aside0 (laws_FnExactNewConsole.j2 kq t225 x87_64 t226 t212 t213 t214 = some r) ∧ Aside0 (kq ≤ kj36) ∧ Aside0 (Kd.R k40 40 wc w.heap.size (fun k_ => some k_ ≠ ((.slice Ao19 t209.length co19) : Value).ownBlock ∧ some k_ ≠ ((.slice Ao75 t231.length co75) : Value).ownBlock) (.slice Ao13 t198.length co13) t198) ∧ Aside0 (Kd.R k40 40 wc w.heap.size (fun k_ => some k_ ≠ ((.slice Ao13 t198.length co13) : Value).ownBlock ∧ some k_ ≠ ((.slice Ao75 t231.length co75) : Value).ownBlock) (.slice Ao19 t209.length co19) t226) ∧ Aside0 (Kd.R k40 40 wc w.heap.size (fun k_ => some k_ ≠ ((.slice Ao13 t198.length co13) : Value).ownBlock ∧ some k_ ≠ ((.slice Ao19 t209.length co19) : Value).ownBlock) (.slice Ao75 t231.length co75) t231) ∧ Aside0 (wc.heap[gb205]? = some (.cells #[(.slice Ao13 t198.length co13), .string t201, .string t202, .int .i64 t203] 28 (0, 0))) ∧ Aside0 (wc.heap[gb216]? = some (.cells #[(.slice Ao19 t209.length co19), .string t212, .string t213, .int .i64 t214] 28 (0, 0))) ∧ Aside0 (wc.heap[gb238]? = some (.cells #[(.slice Ao75 t231.length co75), .string t234, .string t235, .int .i64 t236] 28 (0, 0))) ∧ Aside0 (Below w.heap.size w wc))
             case first =>
              as_aux_lemma =>
               have H := HC65.out
               clear HC65
               replace H := Option.bind_eq_some_iff.mp H
               obtain ⟨t239, A790, H⟩ := H
               replace H : (if t239 = true then (laws_FnExactNewConsole.j2 kj36 t225 (t237 != t204) t226 t212 t213 t214) else (laws_FnExactNewConsole.j2 kj36 t225 true t226 t212 t213 t214)) = some r := H
               have A79 := Aside0.mk A790
               clear A790
               by_cases c80 : t239 = true
               ·
                subst c80
                have H1 : (laws_FnExactNewConsole.j2 kj36 t225 (t237 != t204) t226 t212 t213 t214) = some r := by rw [if_pos rfl] at H; exact H
                clear H
                have H := H1
                clear H1
                have H' := Aside0.mk H
                clear H
                have hnb81 := NB238_205.out
                have hnc81 := NB205_238.out
                have hnb82 := NB238_216.out
                have hnc82 := NB216_238.out
                have hcz83_0 : w74.cell? ⟨gb238, 0, none⟩ = some (.slice none 0 0) := (blk_cell BK238.out 0).trans rfl
                have hcz83_1 : w74.cell? ⟨gb238, 1, none⟩ = some (.string (⟨#[]⟩ : ByteArray)) := (blk_cell BK238.out 1).trans rfl
                have hcz83_2 : w74.cell? ⟨gb238, 2, none⟩ = some (.string (⟨#[]⟩ : ByteArray)) := (blk_cell BK238.out 2).trans rfl
                have hcz83_3 : w74.cell? ⟨gb238, 3, none⟩ = some (.int .i64 0) := (blk_cell BK238.out 3).trans rfl
                have hfz83_0 := blk_frozen BK238.out 0
                have hfz83_1 := blk_frozen BK238.out 1
                have hfz83_2 := blk_frozen BK238.out 2
                have hfz83_3 := blk_frozen BK238.out 3
                have hnb84 := NB205_216.out
                have hnc84 := NB216_205.out
                have hcz85_0 : w74.cell? ⟨gb205, 0, none⟩ = some (.slice Ao13 t198.length co13) := (blk_cell BK205.out 0).trans rfl
                have hcz85_1 : w74.cell? ⟨gb205, 1, none⟩ = some (.string t201) := (blk_cell BK205.out 1).trans rfl
                have hcz85_2 : w74.cell? ⟨gb205, 2, none⟩ = some (.string t202) := (blk_cell BK205.out 2).trans rfl
                have hcz85_3 : w74.cell? ⟨gb205, 3, none⟩ = some (.int .i64 t203) := (blk_cell BK205.out 3).trans rfl
                have hfz85_0 := blk_frozen BK205.out 0
                have hfz85_1 := blk_frozen BK205.out 1
                have hfz85_2 := blk_frozen BK205.out 2
                have hfz85_3 := blk_frozen BK205.out 3
                go_wp2_with (first | ((with_reducible refine gate_callee (f := 8) rfl ?_); refine goesL_ (some 81) rfl rfl Try.func8 (by kernel_rfl) rfl #[.agg #[.slice Ao75 t231.length co75, .string t234, .string t235, .int .i64 t236], .agg #[.slice Ao13 t198.length co13, .string t201, .string t202, .int .i64 t203]] rfl (by (try simp only [List.map_toArray, List.map_cons, List.map_nil]); first | done | rfl | (simp only [List.length_drop, List.length_take]; rfl)) ?_; (with_reducible refine (laws_eqConsole.calls kj36 _ _ t231 t234 t235 t236 _ _ t198 t201 t202 t203 true _ ?side1 ?side2 ?side3 ?side4 A79.out).mono ?_); (case side1 => refine (Kd.R_reads' (e := 40) (base := w.heap.size) (ok := fun k_ => (((True ∧ some k_ ≠ (.slice Ao13 t198.length co13 : Value).ownBlock) ∧ some k_ ≠ (.slice Ao19 t209.length co19 : Value).ownBlock) ∧ some k_ ≠ (.slice Ao72 t228.length co72 : Value).ownBlock)) (n := t231.length) (c := co75) ?_).2.2; exact (by (with_reducible repeat (first | apply Kd.R_alloc | apply Kd.R_drewN | apply Kd.R_drew)); exact (Kd.R_mono (Kd.R_far (p := ⟨gb238, 3, none⟩) (Kd.R_far (p := ⟨gb238, 2, none⟩) (Kd.R_far (p := ⟨gb238, 1, none⟩) (Kd.R_far (p := ⟨gb238, 0, none⟩) (Kd.R_types HO233.out BK238.out (by decide)) (fun _ hk => hk.2) (.slice Ao75 t231.length co75)) (fun _ hk => hk.2) (.string t234)) (fun _ hk => hk.2) (.string t235)) (fun _ hk => hk.2) (.int .i64 t236)) (fun _ h_ => h_.1)))); (case side2 => exact (Kd.R_reads' HO233.out).2.1); (case side3 => refine (Kd.R_reads' (e := 40) (base := w.heap.size) (ok := fun k_ => ((some k_ ≠ (.slice Ao19 t209.length co19 : Value).ownBlock ∧ some k_ ≠ (.slice Ao72 t228.length co72 : Value).ownBlock) ∧ some k_ ≠ (.slice Ao75 t231.length co75 : Value).ownBlock)) (n := t198.length) (c := co13) ?_).2.2; exact (by (with_reducible repeat (first | apply Kd.R_alloc | apply Kd.R_drewN | apply Kd.R_drew)); exact (Kd.R_mono (Kd.R_far (p := ⟨gb238, 3, none⟩) (Kd.R_far (p := ⟨gb238, 2, none⟩) (Kd.R_far (p := ⟨gb238, 1, none⟩) (Kd.R_far (p := ⟨gb238, 0, none⟩) (Kd.R_types HO_206000.out BK238.out (by decide)) (fun _ hk => hk.2) (.slice Ao75 t231.length co75)) (fun _ hk => hk.2) (.string t234)) (fun _ hk => hk.2) (.string t235)) (fun _ hk => hk.2) (.int .i64 t236)) (fun _ h_ => h_.1)))); (case side4 => exact (Kd.R_reads' HO_206000.out).2.1); rintro e w86 ⟨rfl, hb⟩; refine ⟨_, rfl, ?_⟩; have n0_ := Aside0.mk (Kd.R_below (by (with_reducible repeat (first | apply Kd.R_alloc | apply Kd.R_drewN | apply Kd.R_drew)); exact (Kd.R_mono (Kd.R_far (p := ⟨gb238, 3, none⟩) (Kd.R_far (p := ⟨gb238, 2, none⟩) (Kd.R_far (p := ⟨gb238, 1, none⟩) (Kd.R_far (p := ⟨gb238, 0, none⟩) (Kd.R_types HO_206000.out BK238.out (by decide)) (fun _ hk => hk.2) (.slice Ao75 t231.length co75)) (fun _ hk => hk.2) (.string t234)) (fun _ hk => hk.2) (.string t235)) (fun _ hk => hk.2) (.int .i64 t236)) (fun _ h_ => h_.1))) hb); have n1_ := Aside0.mk (Kd.R_below (by (with_reducible repeat (first | apply Kd.R_alloc | apply Kd.R_drewN | apply Kd.R_drew)); exact (Kd.R_mono (Kd.R_far (p := ⟨gb238, 3, none⟩) (Kd.R_far (p := ⟨gb238, 2, none⟩) (Kd.R_far (p := ⟨gb238, 1, none⟩) (Kd.R_far (p := ⟨gb238, 0, none⟩) (Kd.R_types HO_217000.out BK238.out (by decide)) (fun _ hk => hk.2) (.slice Ao75 t231.length co75)) (fun _ hk => hk.2) (.string t234)) (fun _ hk => hk.2) (.string t235)) (fun _ hk => hk.2) (.int .i64 t236)) (fun _ h_ => h_.1))) hb); have n2_ := Aside0.mk (Kd.R_below (by (with_reducible repeat (first | apply Kd.R_alloc | apply Kd.R_drewN | apply Kd.R_drew)); exact (Kd.R_mono (Kd.R_far (p := ⟨gb238, 3, none⟩) (Kd.R_far (p := ⟨gb238, 2, none⟩) (Kd.R_far (p := ⟨gb238, 1, none⟩) (Kd.R_far (p := ⟨gb238, 0, none⟩) (Kd.R_types HO230.out BK238.out (by decide)) (fun _ hk => hk.2) (.slice Ao75 t231.length co75)) (fun _ hk => hk.2) (.string t234)) (fun _ hk => hk.2) (.string t235)) (fun _ hk => hk.2) (.int .i64 t236)) (fun _ h_ => h_.1))) hb); have n3_ := Aside0.mk (Kd.R_below (by (with_reducible repeat (first | apply Kd.R_alloc | apply Kd.R_drewN | apply Kd.R_drew)); exact (Kd.R_mono (Kd.R_far (p := ⟨gb238, 3, none⟩) (Kd.R_far (p := ⟨gb238, 2, none⟩) (Kd.R_far (p := ⟨gb238, 1, none⟩) (Kd.R_far (p := ⟨gb238, 0, none⟩) (Kd.R_types HO233.out BK238.out (by decide)) (fun _ hk => hk.2) (.slice Ao75 t231.length co75)) (fun _ hk => hk.2) (.string t234)) (fun _ hk => hk.2) (.string t235)) (fun _ hk => hk.2) (.int .i64 t236)) (fun _ h_ => h_.1))) hb); have n4_ := Aside0.mk (blk_below (g := gb205) (o := .cells #[.slice Ao13 t198.length co13, .string t201, .string t202, .int .i64 t203] 28 (0, 0)) (by (with_reducible repeat (first | refine blk_drewN ?_ _ | refine blk_drew ?_ | refine blk_alloc ?_ _)); refine blk_far ?_ NB205_238.out _; (with_reducible repeat (first | refine blk_drewN ?_ _ | refine blk_drew ?_ | refine blk_alloc ?_ _)); refine blk_far ?_ NB205_238.out _; (with_reducible repeat (first | refine blk_drewN ?_ _ | refine blk_drew ?_ | refine blk_alloc ?_ _)); refine blk_far ?_ NB205_238.out _; (with_reducible repeat (first | refine blk_drewN ?_ _ | refine blk_drew ?_ | refine blk_alloc ?_ _)); refine blk_far ?_ NB205_238.out _; (with_reducible repeat (first | refine blk_drewN ?_ _ | refine blk_drew ?_ | refine blk_alloc ?_ _)); exact BK205.out) hb); have n5_ := Aside0.mk (blk_below (g := gb216) (o := .cells #[.slice Ao19 t209.length co19, .string t212, .string t213, .int .i64 t214] 28 (0, 0)) (by (with_reducible repeat (first | refine blk_drewN ?_ _ | refine blk_drew ?_ | refine blk_alloc ?_ _)); refine blk_far ?_ NB216_238.out _; (with_reducible repeat (first | refine blk_drewN ?_ _ | refine blk_drew ?_ | refine blk_alloc ?_ _)); refine blk_far ?_ NB216_238.out _; (with_reducible repeat (first | refine blk_drewN ?_ _ | refine blk_drew ?_ | refine blk_alloc ?_ _)); refine blk_far ?_ NB216_238.out _; (with_reducible repeat (first | refine blk_drewN ?_ _ | refine blk_drew ?_ | refine blk_alloc ?_ _)); refine blk_far ?_ NB216_238.out _; (with_reducible repeat (first | refine blk_drewN ?_ _ | refine blk_drew ?_ | refine blk_alloc ?_ _)); exact BK216.out) hb); have n6_ := Aside0.mk (blk_below (g := gb238) (o := .cells #[.slice Ao75 t231.length co75, .string t234, .string t235, .int .i64 t236] 28 (0, 0)) (by (with_reducible repeat (first | refine blk_drewN ?_ _ | refine blk_drew ?_ | refine blk_alloc ?_ _)); refine blk_put (cs := #[.slice Ao75 t231.length co75, .string t234, .string t235, .int .i64 0]) ?_ 3 _ rfl; (with_reducible repeat (first | refine blk_drewN ?_ _ | refine blk_drew ?_ | refine blk_alloc ?_ _)); refine blk_put (cs := #[.slice Ao75 t231.length co75, .string t234, .string (⟨#[]⟩ : ByteArray), .int .i64 0]) ?_ 2 _ rfl; (with_reducible repeat (first | refine blk_drewN ?_ _ | refine blk_drew ?_ | refine blk_alloc ?_ _)); refine blk_put (cs := #[.slice Ao75 t231.length co75, .string (⟨#[]⟩ : ByteArray), .string (⟨#[]⟩ : ByteArray), .int .i64 0]) ?_ 1 _ rfl; (with_reducible repeat (first | refine blk_drewN ?_ _ | refine blk_drew ?_ | refine blk_alloc ?_ _)); refine blk_put (cs := #[.slice none 0 0, .string (⟨#[]⟩ : ByteArray), .string (⟨#[]⟩ : ByteArray), .int .i64 0]) ?_ 0 _ rfl; (with_reducible repeat (first | refine blk_drewN ?_ _ | refine blk_drew ?_ | refine blk_alloc ?_ _)); exact BK238.out) hb); have n7_ := Aside0.mk (below_step (by repeat (first | (with_reducible first | exact HB.out | apply below_alloc | apply pw_below_drewN | apply below_drew1 | refine below_set ?_ GE205.out | refine below_set ?_ GE216.out | refine below_set ?_ GE238.out) | exact HB.out)) hb); clear HO_206000; clear HO_217000; clear HO230; clear HO233; clear BK205; clear BK216; clear BK238; clear HB; have HO_206000 := n0_; have HO_217000 := n1_; have HO230 := n2_; have HO233 := n3_; have BK205 := n4_; have BK216 := n5_; have BK238 := n6_; have HB := n7_; clear n0_ n1_ n2_ n3_ n4_ n5_ n6_ n7_; (try clear hb); (try clear hb2); (try clear hk); (try clear hi)))
                go_meet
                case rel => exact ⟨_, ((t237 != t204)), (by first | rfl | (simp; done) | (simp [*]; done)), H', ⟨by have := HJ7.out; have := HJ36.out; first | omega | exact Nat.le_refl _⟩, ⟨by (with_reducible repeat (first | apply Kd.R_alloc | apply Kd.R_drewN | apply Kd.R_drew)); exact Kd.R_mono HO_206000.out (fun _ hk => ⟨hk.1.1, hk.2⟩)⟩, ⟨by (with_reducible repeat (first | apply Kd.R_alloc | apply Kd.R_drewN | apply Kd.R_drew)); exact Kd.R_mono HO_217000.out (fun _ hk => ⟨hk.1.1, hk.2⟩)⟩, ⟨by (with_reducible repeat (first | apply Kd.R_alloc | apply Kd.R_drewN | apply Kd.R_drew)); exact Kd.R_mono HO233.out (fun _ hk => ⟨hk.1.1.2, hk.1.2⟩)⟩, ⟨by (with_reducible repeat (first | refine blk_drewN ?_ _ | refine blk_drew ?_ | refine blk_alloc ?_ _)); exact BK205.out⟩, ⟨by (with_reducible repeat (first | refine blk_drewN ?_ _ | refine blk_drew ?_ | refine blk_alloc ?_ _)); exact BK216.out⟩, ⟨by (with_reducible repeat (first | refine blk_drewN ?_ _ | refine blk_drew ?_ | refine blk_alloc ?_ _)); exact BK238.out⟩, ⟨by repeat (first | (with_reducible first | exact HB.out | apply below_alloc | apply pw_below_drewN | apply below_drew1 | refine below_set ?_ GE205.out | refine below_set ?_ GE216.out | refine below_set ?_ GE238.out) | exact HB.out)⟩⟩
               ·
                replace c80 := Bool.eq_false_iff.mpr c80
                subst c80
                have H1 : (laws_FnExactNewConsole.j2 kj36 t225 true t226 t212 t213 t214) = some r := by rw [if_neg (show ¬ (false = true) by decide)] at H; exact H
                clear H
                have H := H1
                clear H1
                have H' := Aside0.mk H
                clear H
                have hnb87 := NB238_205.out
                have hnc87 := NB205_238.out
                have hnb88 := NB238_216.out
                have hnc88 := NB216_238.out
                have hcz89_0 : w74.cell? ⟨gb238, 0, none⟩ = some (.slice none 0 0) := (blk_cell BK238.out 0).trans rfl
                have hcz89_1 : w74.cell? ⟨gb238, 1, none⟩ = some (.string (⟨#[]⟩ : ByteArray)) := (blk_cell BK238.out 1).trans rfl
                have hcz89_2 : w74.cell? ⟨gb238, 2, none⟩ = some (.string (⟨#[]⟩ : ByteArray)) := (blk_cell BK238.out 2).trans rfl
                have hcz89_3 : w74.cell? ⟨gb238, 3, none⟩ = some (.int .i64 0) := (blk_cell BK238.out 3).trans rfl
                have hfz89_0 := blk_frozen BK238.out 0
                have hfz89_1 := blk_frozen BK238.out 1
                have hfz89_2 := blk_frozen BK238.out 2
                have hfz89_3 := blk_frozen BK238.out 3
                have hnb90 := NB205_216.out
                have hnc90 := NB216_205.out
                have hcz91_0 : w74.cell? ⟨gb205, 0, none⟩ = some (.slice Ao13 t198.length co13) := (blk_cell BK205.out 0).trans rfl
                have hcz91_1 : w74.cell? ⟨gb205, 1, none⟩ = some (.string t201) := (blk_cell BK205.out 1).trans rfl
                have hcz91_2 : w74.cell? ⟨gb205, 2, none⟩ = some (.string t202) := (blk_cell BK205.out 2).trans rfl
                have hcz91_3 : w74.cell? ⟨gb205, 3, none⟩ = some (.int .i64 t203) := (blk_cell BK205.out 3).trans rfl
                have hfz91_0 := blk_frozen BK205.out 0
                have hfz91_1 := blk_frozen BK205.out 1
                have hfz91_2 := blk_frozen BK205.out 2
                have hfz91_3 := blk_frozen BK205.out 3
                go_wp2_with (first | ((with_reducible refine gate_callee (f := 8) rfl ?_); refine goesL_ (some 81) rfl rfl Try.func8 (by kernel_rfl) rfl #[.agg #[.slice Ao75 t231.length co75, .string t234, .string t235, .int .i64 t236], .agg #[.slice Ao13 t198.length co13, .string t201, .string t202, .int .i64 t203]] rfl (by (try simp only [List.map_toArray, List.map_cons, List.map_nil]); first | done | rfl | (simp only [List.length_drop, List.length_take]; rfl)) ?_; (with_reducible refine (laws_eqConsole.calls kj36 _ _ t231 t234 t235 t236 _ _ t198 t201 t202 t203 false _ ?side1 ?side2 ?side3 ?side4 A79.out).mono ?_); (case side1 => refine (Kd.R_reads' (e := 40) (base := w.heap.size) (ok := fun k_ => (((True ∧ some k_ ≠ (.slice Ao13 t198.length co13 : Value).ownBlock) ∧ some k_ ≠ (.slice Ao19 t209.length co19 : Value).ownBlock) ∧ some k_ ≠ (.slice Ao72 t228.length co72 : Value).ownBlock)) (n := t231.length) (c := co75) ?_).2.2; exact (by (with_reducible repeat (first | apply Kd.R_alloc | apply Kd.R_drewN | apply Kd.R_drew)); exact (Kd.R_mono (Kd.R_far (p := ⟨gb238, 3, none⟩) (Kd.R_far (p := ⟨gb238, 2, none⟩) (Kd.R_far (p := ⟨gb238, 1, none⟩) (Kd.R_far (p := ⟨gb238, 0, none⟩) (Kd.R_types HO233.out BK238.out (by decide)) (fun _ hk => hk.2) (.slice Ao75 t231.length co75)) (fun _ hk => hk.2) (.string t234)) (fun _ hk => hk.2) (.string t235)) (fun _ hk => hk.2) (.int .i64 t236)) (fun _ h_ => h_.1)))); (case side2 => exact (Kd.R_reads' HO233.out).2.1); (case side3 => refine (Kd.R_reads' (e := 40) (base := w.heap.size) (ok := fun k_ => ((some k_ ≠ (.slice Ao19 t209.length co19 : Value).ownBlock ∧ some k_ ≠ (.slice Ao72 t228.length co72 : Value).ownBlock) ∧ some k_ ≠ (.slice Ao75 t231.length co75 : Value).ownBlock)) (n := t198.length) (c := co13) ?_).2.2; exact (by (with_reducible repeat (first | apply Kd.R_alloc | apply Kd.R_drewN | apply Kd.R_drew)); exact (Kd.R_mono (Kd.R_far (p := ⟨gb238, 3, none⟩) (Kd.R_far (p := ⟨gb238, 2, none⟩) (Kd.R_far (p := ⟨gb238, 1, none⟩) (Kd.R_far (p := ⟨gb238, 0, none⟩) (Kd.R_types HO_206000.out BK238.out (by decide)) (fun _ hk => hk.2) (.slice Ao75 t231.length co75)) (fun _ hk => hk.2) (.string t234)) (fun _ hk => hk.2) (.string t235)) (fun _ hk => hk.2) (.int .i64 t236)) (fun _ h_ => h_.1)))); (case side4 => exact (Kd.R_reads' HO_206000.out).2.1); rintro e w92 ⟨rfl, hb⟩; refine ⟨_, rfl, ?_⟩; have n0_ := Aside0.mk (Kd.R_below (by (with_reducible repeat (first | apply Kd.R_alloc | apply Kd.R_drewN | apply Kd.R_drew)); exact (Kd.R_mono (Kd.R_far (p := ⟨gb238, 3, none⟩) (Kd.R_far (p := ⟨gb238, 2, none⟩) (Kd.R_far (p := ⟨gb238, 1, none⟩) (Kd.R_far (p := ⟨gb238, 0, none⟩) (Kd.R_types HO_206000.out BK238.out (by decide)) (fun _ hk => hk.2) (.slice Ao75 t231.length co75)) (fun _ hk => hk.2) (.string t234)) (fun _ hk => hk.2) (.string t235)) (fun _ hk => hk.2) (.int .i64 t236)) (fun _ h_ => h_.1))) hb); have n1_ := Aside0.mk (Kd.R_below (by (with_reducible repeat (first | apply Kd.R_alloc | apply Kd.R_drewN | apply Kd.R_drew)); exact (Kd.R_mono (Kd.R_far (p := ⟨gb238, 3, none⟩) (Kd.R_far (p := ⟨gb238, 2, none⟩) (Kd.R_far (p := ⟨gb238, 1, none⟩) (Kd.R_far (p := ⟨gb238, 0, none⟩) (Kd.R_types HO_217000.out BK238.out (by decide)) (fun _ hk => hk.2) (.slice Ao75 t231.length co75)) (fun _ hk => hk.2) (.string t234)) (fun _ hk => hk.2) (.string t235)) (fun _ hk => hk.2) (.int .i64 t236)) (fun _ h_ => h_.1))) hb); have n2_ := Aside0.mk (Kd.R_below (by (with_reducible repeat (first | apply Kd.R_alloc | apply Kd.R_drewN | apply Kd.R_drew)); exact (Kd.R_mono (Kd.R_far (p := ⟨gb238, 3, none⟩) (Kd.R_far (p := ⟨gb238, 2, none⟩) (Kd.R_far (p := ⟨gb238, 1, none⟩) (Kd.R_far (p := ⟨gb238, 0, none⟩) (Kd.R_types HO230.out BK238.out (by decide)) (fun _ hk => hk.2) (.slice Ao75 t231.length co75)) (fun _ hk => hk.2) (.string t234)) (fun _ hk => hk.2) (.string t235)) (fun _ hk => hk.2) (.int .i64 t236)) (fun _ h_ => h_.1))) hb); have n3_ := Aside0.mk (Kd.R_below (by (with_reducible repeat (first | apply Kd.R_alloc | apply Kd.R_drewN | apply Kd.R_drew)); exact (Kd.R_mono (Kd.R_far (p := ⟨gb238, 3, none⟩) (Kd.R_far (p := ⟨gb238, 2, none⟩) (Kd.R_far (p := ⟨gb238, 1, none⟩) (Kd.R_far (p := ⟨gb238, 0, none⟩) (Kd.R_types HO233.out BK238.out (by decide)) (fun _ hk => hk.2) (.slice Ao75 t231.length co75)) (fun _ hk => hk.2) (.string t234)) (fun _ hk => hk.2) (.string t235)) (fun _ hk => hk.2) (.int .i64 t236)) (fun _ h_ => h_.1))) hb); have n4_ := Aside0.mk (blk_below (g := gb205) (o := .cells #[.slice Ao13 t198.length co13, .string t201, .string t202, .int .i64 t203] 28 (0, 0)) (by (with_reducible repeat (first | refine blk_drewN ?_ _ | refine blk_drew ?_ | refine blk_alloc ?_ _)); refine blk_far ?_ NB205_238.out _; (with_reducible repeat (first | refine blk_drewN ?_ _ | refine blk_drew ?_ | refine blk_alloc ?_ _)); refine blk_far ?_ NB205_238.out _; (with_reducible repeat (first | refine blk_drewN ?_ _ | refine blk_drew ?_ | refine blk_alloc ?_ _)); refine blk_far ?_ NB205_238.out _; (with_reducible repeat (first | refine blk_drewN ?_ _ | refine blk_drew ?_ | refine blk_alloc ?_ _)); refine blk_far ?_ NB205_238.out _; (with_reducible repeat (first | refine blk_drewN ?_ _ | refine blk_drew ?_ | refine blk_alloc ?_ _)); exact BK205.out) hb); have n5_ := Aside0.mk (blk_below (g := gb216) (o := .cells #[.slice Ao19 t209.length co19, .string t212, .string t213, .int .i64 t214] 28 (0, 0)) (by (with_reducible repeat (first | refine blk_drewN ?_ _ | refine blk_drew ?_ | refine blk_alloc ?_ _)); refine blk_far ?_ NB216_238.out _; (with_reducible repeat (first | refine blk_drewN ?_ _ | refine blk_drew ?_ | refine blk_alloc ?_ _)); refine blk_far ?_ NB216_238.out _; (with_reducible repeat (first | refine blk_drewN ?_ _ | refine blk_drew ?_ | refine blk_alloc ?_ _)); refine blk_far ?_ NB216_238.out _; (with_reducible repeat (first | refine blk_drewN ?_ _ | refine blk_drew ?_ | refine blk_alloc ?_ _)); refine blk_far ?_ NB216_238.out _; (with_reducible repeat (first | refine blk_drewN ?_ _ | refine blk_drew ?_ | refine blk_alloc ?_ _)); exact BK216.out) hb); have n6_ := Aside0.mk (blk_below (g := gb238) (o := .cells #[.slice Ao75 t231.length co75, .string t234, .string t235, .int .i64 t236] 28 (0, 0)) (by (with_reducible repeat (first | refine blk_drewN ?_ _ | refine blk_drew ?_ | refine blk_alloc ?_ _)); refine blk_put (cs := #[.slice Ao75 t231.length co75, .string t234, .string t235, .int .i64 0]) ?_ 3 _ rfl; (with_reducible repeat (first | refine blk_drewN ?_ _ | refine blk_drew ?_ | refine blk_alloc ?_ _)); refine blk_put (cs := #[.slice Ao75 t231.length co75, .string t234, .string (⟨#[]⟩ : ByteArray), .int .i64 0]) ?_ 2 _ rfl; (with_reducible repeat (first | refine blk_drewN ?_ _ | refine blk_drew ?_ | refine blk_alloc ?_ _)); refine blk_put (cs := #[.slice Ao75 t231.length co75, .string (⟨#[]⟩ : ByteArray), .string (⟨#[]⟩ : ByteArray), .int .i64 0]) ?_ 1 _ rfl; (with_reducible repeat (first | refine blk_drewN ?_ _ | refine blk_drew ?_ | refine blk_alloc ?_ _)); refine blk_put (cs := #[.slice none 0 0, .string (⟨#[]⟩ : ByteArray), .string (⟨#[]⟩ : ByteArray), .int .i64 0]) ?_ 0 _ rfl; (with_reducible repeat (first | refine blk_drewN ?_ _ | refine blk_drew ?_ | refine blk_alloc ?_ _)); exact BK238.out) hb); have n7_ := Aside0.mk (below_step (by repeat (first | (with_reducible first | exact HB.out | apply below_alloc | apply pw_below_drewN | apply below_drew1 | refine below_set ?_ GE205.out | refine below_set ?_ GE216.out | refine below_set ?_ GE238.out) | exact HB.out)) hb); clear HO_206000; clear HO_217000; clear HO230; clear HO233; clear BK205; clear BK216; clear BK238; clear HB; have HO_206000 := n0_; have HO_217000 := n1_; have HO230 := n2_; have HO233 := n3_; have BK205 := n4_; have BK216 := n5_; have BK238 := n6_; have HB := n7_; clear n0_ n1_ n2_ n3_ n4_ n5_ n6_ n7_; (try clear hb); (try clear hb2); (try clear hk); (try clear hi)))
                go_meet
                case rel => exact ⟨_, (true), (by first | rfl | (simp; done) | (simp [*]; done)), H', ⟨by have := HJ7.out; have := HJ36.out; first | omega | exact Nat.le_refl _⟩, ⟨by (with_reducible repeat (first | apply Kd.R_alloc | apply Kd.R_drewN | apply Kd.R_drew)); exact Kd.R_mono HO_206000.out (fun _ hk => ⟨hk.1.1, hk.2⟩)⟩, ⟨by (with_reducible repeat (first | apply Kd.R_alloc | apply Kd.R_drewN | apply Kd.R_drew)); exact Kd.R_mono HO_217000.out (fun _ hk => ⟨hk.1.1, hk.2⟩)⟩, ⟨by (with_reducible repeat (first | apply Kd.R_alloc | apply Kd.R_drewN | apply Kd.R_drew)); exact Kd.R_mono HO233.out (fun _ hk => ⟨hk.1.1.2, hk.1.2⟩)⟩, ⟨by (with_reducible repeat (first | refine blk_drewN ?_ _ | refine blk_drew ?_ | refine blk_alloc ?_ _)); exact BK205.out⟩, ⟨by (with_reducible repeat (first | refine blk_drewN ?_ _ | refine blk_drew ?_ | refine blk_alloc ?_ _)); exact BK216.out⟩, ⟨by (with_reducible repeat (first | refine blk_drewN ?_ _ | refine blk_drew ?_ | refine blk_alloc ?_ _)); exact BK238.out⟩, ⟨by repeat (first | (with_reducible first | exact HB.out | apply below_alloc | apply pw_below_drewN | apply below_drew1 | refine below_set ?_ GE205.out | refine below_set ?_ GE216.out | refine below_set ?_ GE238.out) | exact HB.out)⟩⟩
             case rest =>
              as_aux_lemma =>
               clear HC65
               try clear c1
               try clear c2
               try clear p2
               try clear c3
               try clear c3b0
               try clear c4
               try clear c5
               try clear c6
               try clear c7
               try clear c8
               try clear c9
               try clear c10
               try clear c11
               try clear c12
               try clear c20
               try clear c23
               try clear c24
               try clear c28
               try clear c32
               try clear c35
               try clear c42
               try clear c42b0
               try clear c44
               try clear c45
               try clear c49
               try clear c53
               try clear c56
               try clear c56b0
               try clear c57
               try clear c62
               try clear c62b0
               try clear c62b1
               try clear c66
               try clear c76
               try clear c77
               try clear c80
               try clear c81
               try clear c82
               try clear c84
               try clear c87
               try clear c88
               try clear c90
               try clear hcz14_0
               try clear hcz14_1
               try clear hcz14_2
               try clear hcz14_3
               try clear hcz21_0
               try clear hcz21_1
               try clear hcz21_2
               try clear hcz21_3
               try clear hcz25_0
               try clear hcz25_1
               try clear hcz25_2
               try clear hcz25_3
               try clear hcz26_0
               try clear hcz26_1
               try clear hcz26_2
               try clear hcz26_3
               try clear hcz29_0
               try clear hcz29_1
               try clear hcz29_2
               try clear hcz29_3
               try clear hcz30_0
               try clear hcz30_1
               try clear hcz30_2
               try clear hcz30_3
               try clear hcz46_0
               try clear hcz46_1
               try clear hcz46_2
               try clear hcz46_3
               try clear hcz47_0
               try clear hcz47_1
               try clear hcz47_2
               try clear hcz47_3
               try clear hcz50_0
               try clear hcz50_1
               try clear hcz50_2
               try clear hcz50_3
               try clear hcz51_0
               try clear hcz51_1
               try clear hcz51_2
               try clear hcz51_3
               try clear hcz58_0
               try clear hcz58_1
               try clear hcz58_2
               try clear hcz58_3
               try clear hcz60_0
               try clear hcz60_1
               try clear hcz60_2
               try clear hcz60_3
               try clear hcz67_0
               try clear hcz67_1
               try clear hcz67_2
               try clear hcz67_3
               try clear hcz69_0
               try clear hcz69_1
               try clear hcz69_2
               try clear hcz69_3
               try clear hcz78_0
               try clear hcz78_1
               try clear hcz78_2
               try clear hcz78_3
               try clear hcz83_0
               try clear hcz83_1
               try clear hcz83_2
               try clear hcz83_3
               try clear hcz85_0
               try clear hcz85_1
               try clear hcz85_2
               try clear hcz85_3
               try clear hcz89_0
               try clear hcz89_1
               try clear hcz89_2
               try clear hcz89_3
               try clear hcz91_0
               try clear hcz91_1
               try clear hcz91_2
               try clear hcz91_3
               try clear hfz14_0
               try clear hfz14_1
               try clear hfz14_2
               try clear hfz14_3
               try clear hfz21_0
               try clear hfz21_1
               try clear hfz21_2
               try clear hfz21_3
               try clear hfz25_0
               try clear hfz25_1
               try clear hfz25_2
               try clear hfz25_3
               try clear hfz26_0
               try clear hfz26_1
               try clear hfz26_2
               try clear hfz26_3
               try clear hfz29_0
               try clear hfz29_1
               try clear hfz29_2
               try clear hfz29_3
               try clear hfz30_0
               try clear hfz30_1
               try clear hfz30_2
               try clear hfz30_3
               try clear hfz46_0
               try clear hfz46_1
               try clear hfz46_2
               try clear hfz46_3
               try clear hfz47_0
               try clear hfz47_1
               try clear hfz47_2
               try clear hfz47_3
               try clear hfz50_0
               try clear hfz50_1
               try clear hfz50_2
               try clear hfz50_3
               try clear hfz51_0
               try clear hfz51_1
               try clear hfz51_2
               try clear hfz51_3
               try clear hfz58_0
               try clear hfz58_1
               try clear hfz58_2
               try clear hfz58_3
               try clear hfz60_0
               try clear hfz60_1
               try clear hfz60_2
               try clear hfz60_3
               try clear hfz67_0
               try clear hfz67_1
               try clear hfz67_2
               try clear hfz67_3
               try clear hfz69_0
               try clear hfz69_1
               try clear hfz69_2
               try clear hfz69_3
               try clear hfz78_0
               try clear hfz78_1
               try clear hfz78_2
               try clear hfz78_3
               try clear hfz83_0
               try clear hfz83_1
               try clear hfz83_2
               try clear hfz83_3
               try clear hfz85_0
               try clear hfz85_1
               try clear hfz85_2
               try clear hfz85_3
               try clear hfz89_0
               try clear hfz89_1
               try clear hfz89_2
               try clear hfz89_3
               try clear hfz91_0
               try clear hfz91_1
               try clear hfz91_2
               try clear hfz91_3
               try clear p2
               obtain ⟨kq, x87_64, rfl, HA, HJ64, HO_206000, HO_217000, HO_239000, BK205, BK216, BK238, HB⟩ := hcut
               have hl217000_64 := (Kd.R_reads' HO_217000.out).1
               rw [hl217000_64] at HO_217000
               (try simp only [hl217000_64])
               (try simp only [hl217000_64] at BK205)
               (try simp only [hl217000_64] at BK216)
               (try simp only [hl217000_64] at BK238)
               (try simp only [hl217000_64] at HO_206000)
               (try simp only [hl217000_64] at HO_239000)
               cases kq with
               | zero => exact absurd HA.out (by simp [laws_FnExactNewConsole.j2])
               | succ kj64 =>
                have H := HA.out
                clear HA
                simp only [laws_FnExactNewConsole.j2] at H
                by_cases c93 : x87_64 = true
                ·
                 subst c93
                 have H1 : (some false) = some r := by rw [if_pos rfl] at H; exact H
                 exact absurd ((Option.some.inj H1).trans hrt_) (by decide)
                ·
                 replace c93 := Bool.eq_false_iff.mpr c93
                 subst c93
                 have H1 : ((laws_heldConsole.f kj64 t226 t212 t213 t214 1).bind fun t240 => (if t240 < 0 then (some false) else (if t240 = t225 then (some true) else (some false)))) = some r := by rw [if_neg (show ¬ (false = true) by decide)] at H; exact H
                 clear H
                 have H := H1
                 clear H1
                 replace H := Option.bind_eq_some_iff.mp H
                 obtain ⟨t240, A940, H⟩ := H
                 replace H : (if t240 < 0 then (some false) else (if t240 = t225 then (some true) else (some false))) = some r := H
                 have A94 := Aside0.mk A940
                 clear A940
                 by_cases c95 : t240 < 0
                 ·
                  rw [if_pos c95] at H
                  have c95b0 : decide (t240 < 0) = true := decide_eq_true c95
                  clear c95
                  obtain rfl := Option.some.inj H
                  have hnb96 := NB216_205.out
                  have hnc96 := NB205_216.out
                  have hnb97 := NB216_238.out
                  have hnc97 := NB238_216.out
                  have hcz98_0 : wc.cell? ⟨gb216, 0, none⟩ = some (.slice Ao19 t226.length co19) := (blk_cell BK216.out 0).trans rfl
                  have hcz98_1 : wc.cell? ⟨gb216, 1, none⟩ = some (.string t212) := (blk_cell BK216.out 1).trans rfl
                  have hcz98_2 : wc.cell? ⟨gb216, 2, none⟩ = some (.string t213) := (blk_cell BK216.out 2).trans rfl
                  have hcz98_3 : wc.cell? ⟨gb216, 3, none⟩ = some (.int .i64 t214) := (blk_cell BK216.out 3).trans rfl
                  have hfz98_0 := blk_frozen BK216.out 0
                  have hfz98_1 := blk_frozen BK216.out 1
                  have hfz98_2 := blk_frozen BK216.out 2
                  have hfz98_3 := blk_frozen BK216.out 3
                  go_wp2_with (first | ((with_reducible refine gate_callee (f := 12) rfl ?_); refine goesL_ (some 90) rfl rfl Try.func12 (by kernel_rfl) rfl #[.agg #[.slice Ao19 t226.length co19, .string t212, .string t213, .int .i64 t214], .int .i64 1] rfl (by (try simp only [List.map_toArray, List.map_cons, List.map_nil]); first | done | rfl | (simp only [List.length_drop, List.length_take]; rfl)) ?_; (with_reducible refine (laws_heldConsole.calls kj64 _ _ t226 t212 t213 t214 1 t240 _ ?side1 ?side2 A94.out).mono ?_); (case side1 => repeat (first | exact (Kd.R_reads' HO_217000.out).2.2 | (with_reducible refine Kd.C_alloc ?_ _) | (with_reducible refine Kd.C_drewN ?_ _) | (with_reducible refine Kd.C_drew ?_))); (case side2 => exact (Kd.R_reads' HO_217000.out).2.1); rintro e w99 ⟨rfl, hb⟩; refine ⟨_, rfl, ?_⟩; have n0_ := Aside0.mk (Kd.R_below (by (with_reducible repeat (first | apply Kd.R_alloc | apply Kd.R_drewN | apply Kd.R_drew)); exact HO_206000.out) hb); have n1_ := Aside0.mk (Kd.R_below (by (with_reducible repeat (first | apply Kd.R_alloc | apply Kd.R_drewN | apply Kd.R_drew)); exact HO_217000.out) hb); have n2_ := Aside0.mk (Kd.R_below (by (with_reducible repeat (first | apply Kd.R_alloc | apply Kd.R_drewN | apply Kd.R_drew)); exact HO_239000.out) hb); have n3_ := Aside0.mk (blk_below (g := gb205) (o := .cells #[.slice Ao13 t198.length co13, .string t201, .string t202, .int .i64 t203] 28 (0, 0)) BK205.out hb); have n4_ := Aside0.mk (blk_below (g := gb216) (o := .cells #[.slice Ao19 t226.length co19, .string t212, .string t213, .int .i64 t214] 28 (0, 0)) BK216.out hb); have n5_ := Aside0.mk (blk_below (g := gb238) (o := .cells #[.slice Ao75 t231.length co75, .string t234, .string t235, .int .i64 t236] 28 (0, 0)) BK238.out hb); have n6_ := Aside0.mk (below_step (by repeat (first | (with_reducible first | exact HB.out | apply below_alloc | apply pw_below_drewN | apply below_drew1 | refine below_set ?_ GE205.out | refine below_set ?_ GE216.out | refine below_set ?_ GE238.out) | exact HB.out)) hb); clear HO_206000; clear HO_217000; clear HO_239000; clear BK205; clear BK216; clear BK238; clear HB; have HO_206000 := n0_; have HO_217000 := n1_; have HO_239000 := n2_; have BK205 := n3_; have BK216 := n4_; have BK238 := n5_; have HB := n6_; clear n0_ n1_ n2_ n3_ n4_ n5_ n6_; (try clear hb); (try clear hb2); (try clear hk); (try clear hi)))
                  go_ret
                  exact ⟨by first | rfl | (simp [errW_none, errW_some] <;> rfl) | (simp [*, errW_none, errW_some] <;> rfl), by repeat (first | (with_reducible first | exact HB.out | apply below_alloc | apply pw_below_drewN | apply below_drew1 | refine below_set ?_ GE205.out | refine below_set ?_ GE216.out | refine below_set ?_ GE238.out) | exact HB.out)⟩
                 ·
                  rw [if_neg c95] at H
                  have c95b0 : decide (t240 < 0) = false := decide_eq_false c95
                  clear c95
                  by_cases c100 : t240 = t225
                  ·
                   rw [if_pos c100] at H
                   have c100b0 : (t240 == t225) = true := beq_iff_eq.mpr c100
                   have c100b1 : (t240 != t225) = false := bne_eq_false_iff_eq.mpr c100
                   clear c100
                   obtain rfl := Option.some.inj H
                   have hnb101 := NB216_205.out
                   have hnc101 := NB205_216.out
                   have hnb102 := NB216_238.out
                   have hnc102 := NB238_216.out
                   have hcz103_0 : wc.cell? ⟨gb216, 0, none⟩ = some (.slice Ao19 t226.length co19) := (blk_cell BK216.out 0).trans rfl
                   have hcz103_1 : wc.cell? ⟨gb216, 1, none⟩ = some (.string t212) := (blk_cell BK216.out 1).trans rfl
                   have hcz103_2 : wc.cell? ⟨gb216, 2, none⟩ = some (.string t213) := (blk_cell BK216.out 2).trans rfl
                   have hcz103_3 : wc.cell? ⟨gb216, 3, none⟩ = some (.int .i64 t214) := (blk_cell BK216.out 3).trans rfl
                   have hfz103_0 := blk_frozen BK216.out 0
                   have hfz103_1 := blk_frozen BK216.out 1
                   have hfz103_2 := blk_frozen BK216.out 2
                   have hfz103_3 := blk_frozen BK216.out 3
                   go_wp2_with (first | ((with_reducible refine gate_callee (f := 12) rfl ?_); refine goesL_ (some 90) rfl rfl Try.func12 (by kernel_rfl) rfl #[.agg #[.slice Ao19 t226.length co19, .string t212, .string t213, .int .i64 t214], .int .i64 1] rfl (by (try simp only [List.map_toArray, List.map_cons, List.map_nil]); first | done | rfl | (simp only [List.length_drop, List.length_take]; rfl)) ?_; (with_reducible refine (laws_heldConsole.calls kj64 _ _ t226 t212 t213 t214 1 t240 _ ?side1 ?side2 A94.out).mono ?_); (case side1 => repeat (first | exact (Kd.R_reads' HO_217000.out).2.2 | (with_reducible refine Kd.C_alloc ?_ _) | (with_reducible refine Kd.C_drewN ?_ _) | (with_reducible refine Kd.C_drew ?_))); (case side2 => exact (Kd.R_reads' HO_217000.out).2.1); rintro e w104 ⟨rfl, hb⟩; refine ⟨_, rfl, ?_⟩; have n0_ := Aside0.mk (Kd.R_below (by (with_reducible repeat (first | apply Kd.R_alloc | apply Kd.R_drewN | apply Kd.R_drew)); exact HO_206000.out) hb); have n1_ := Aside0.mk (Kd.R_below (by (with_reducible repeat (first | apply Kd.R_alloc | apply Kd.R_drewN | apply Kd.R_drew)); exact HO_217000.out) hb); have n2_ := Aside0.mk (Kd.R_below (by (with_reducible repeat (first | apply Kd.R_alloc | apply Kd.R_drewN | apply Kd.R_drew)); exact HO_239000.out) hb); have n3_ := Aside0.mk (blk_below (g := gb205) (o := .cells #[.slice Ao13 t198.length co13, .string t201, .string t202, .int .i64 t203] 28 (0, 0)) BK205.out hb); have n4_ := Aside0.mk (blk_below (g := gb216) (o := .cells #[.slice Ao19 t226.length co19, .string t212, .string t213, .int .i64 t214] 28 (0, 0)) BK216.out hb); have n5_ := Aside0.mk (blk_below (g := gb238) (o := .cells #[.slice Ao75 t231.length co75, .string t234, .string t235, .int .i64 t236] 28 (0, 0)) BK238.out hb); have n6_ := Aside0.mk (below_step (by repeat (first | (with_reducible first | exact HB.out | apply below_alloc | apply pw_below_drewN | apply below_drew1 | refine below_set ?_ GE205.out | refine below_set ?_ GE216.out | refine below_set ?_ GE238.out) | exact HB.out)) hb); clear HO_206000; clear HO_217000; clear HO_239000; clear BK205; clear BK216; clear BK238; clear HB; have HO_206000 := n0_; have HO_217000 := n1_; have HO_239000 := n2_; have BK205 := n3_; have BK216 := n4_; have BK238 := n5_; have HB := n6_; clear n0_ n1_ n2_ n3_ n4_ n5_ n6_; (try clear hb); (try clear hb2); (try clear hk); (try clear hi)))
                   go_ret
                   exact ⟨by first | rfl | (simp [errW_none, errW_some] <;> rfl) | (simp [*, errW_none, errW_some] <;> rfl), by repeat (first | (with_reducible first | exact HB.out | apply below_alloc | apply pw_below_drewN | apply below_drew1 | refine below_set ?_ GE205.out | refine below_set ?_ GE216.out | refine below_set ?_ GE238.out) | exact HB.out)⟩
                  ·
                   rw [if_neg c100] at H
                   have c100b0 : (t240 == t225) = false := beq_eq_false_iff_ne.mpr c100
                   have c100b1 : (t240 != t225) = true := bne_iff_ne.mpr c100
                   obtain rfl := Option.some.inj H
                   have hnb105 := NB216_205.out
                   have hnc105 := NB205_216.out
                   have hnb106 := NB216_238.out
                   have hnc106 := NB238_216.out
                   have hcz107_0 : wc.cell? ⟨gb216, 0, none⟩ = some (.slice Ao19 t226.length co19) := (blk_cell BK216.out 0).trans rfl
                   have hcz107_1 : wc.cell? ⟨gb216, 1, none⟩ = some (.string t212) := (blk_cell BK216.out 1).trans rfl
                   have hcz107_2 : wc.cell? ⟨gb216, 2, none⟩ = some (.string t213) := (blk_cell BK216.out 2).trans rfl
                   have hcz107_3 : wc.cell? ⟨gb216, 3, none⟩ = some (.int .i64 t214) := (blk_cell BK216.out 3).trans rfl
                   have hfz107_0 := blk_frozen BK216.out 0
                   have hfz107_1 := blk_frozen BK216.out 1
                   have hfz107_2 := blk_frozen BK216.out 2
                   have hfz107_3 := blk_frozen BK216.out 3
                   go_wp2_with (first | ((with_reducible refine gate_callee (f := 12) rfl ?_); refine goesL_ (some 90) rfl rfl Try.func12 (by kernel_rfl) rfl #[.agg #[.slice Ao19 t226.length co19, .string t212, .string t213, .int .i64 t214], .int .i64 1] rfl (by (try simp only [List.map_toArray, List.map_cons, List.map_nil]); first | done | rfl | (simp only [List.length_drop, List.length_take]; rfl)) ?_; (with_reducible refine (laws_heldConsole.calls kj64 _ _ t226 t212 t213 t214 1 t240 _ ?side1 ?side2 A94.out).mono ?_); (case side1 => repeat (first | exact (Kd.R_reads' HO_217000.out).2.2 | (with_reducible refine Kd.C_alloc ?_ _) | (with_reducible refine Kd.C_drewN ?_ _) | (with_reducible refine Kd.C_drew ?_))); (case side2 => exact (Kd.R_reads' HO_217000.out).2.1); rintro e w108 ⟨rfl, hb⟩; refine ⟨_, rfl, ?_⟩; have n0_ := Aside0.mk (Kd.R_below (by (with_reducible repeat (first | apply Kd.R_alloc | apply Kd.R_drewN | apply Kd.R_drew)); exact HO_206000.out) hb); have n1_ := Aside0.mk (Kd.R_below (by (with_reducible repeat (first | apply Kd.R_alloc | apply Kd.R_drewN | apply Kd.R_drew)); exact HO_217000.out) hb); have n2_ := Aside0.mk (Kd.R_below (by (with_reducible repeat (first | apply Kd.R_alloc | apply Kd.R_drewN | apply Kd.R_drew)); exact HO_239000.out) hb); have n3_ := Aside0.mk (blk_below (g := gb205) (o := .cells #[.slice Ao13 t198.length co13, .string t201, .string t202, .int .i64 t203] 28 (0, 0)) BK205.out hb); have n4_ := Aside0.mk (blk_below (g := gb216) (o := .cells #[.slice Ao19 t226.length co19, .string t212, .string t213, .int .i64 t214] 28 (0, 0)) BK216.out hb); have n5_ := Aside0.mk (blk_below (g := gb238) (o := .cells #[.slice Ao75 t231.length co75, .string t234, .string t235, .int .i64 t236] 28 (0, 0)) BK238.out hb); have n6_ := Aside0.mk (below_step (by repeat (first | (with_reducible first | exact HB.out | apply below_alloc | apply pw_below_drewN | apply below_drew1 | refine below_set ?_ GE205.out | refine below_set ?_ GE216.out | refine below_set ?_ GE238.out) | exact HB.out)) hb); clear HO_206000; clear HO_217000; clear HO_239000; clear BK205; clear BK216; clear BK238; clear HB; have HO_206000 := n0_; have HO_217000 := n1_; have HO_239000 := n2_; have BK205 := n3_; have BK216 := n4_; have BK238 := n5_; have HB := n6_; clear n0_ n1_ n2_ n3_ n4_ n5_ n6_; (try clear hb); (try clear hb2); (try clear hk); (try clear hi)))
                   go_ret
                   exact ⟨by first | rfl | (simp [errW_none, errW_some] <;> rfl) | (simp [*, errW_none, errW_some] <;> rfl), by repeat (first | (with_reducible first | exact HB.out | apply below_alloc | apply pw_below_drewN | apply below_drew1 | refine below_set ?_ GE205.out | refine below_set ?_ GE216.out | refine below_set ?_ GE238.out) | exact HB.out)⟩
            ·
             rw [if_neg c62] at H
             have c62b0 : (t227 == t225) = false := beq_eq_false_iff_ne.mpr c62
             have c62b1 : (t227 != t225) = true := bne_iff_ne.mpr c62
             obtain rfl := Option.some.inj H
             have hnb109 := NB216_205.out
             have hnc109 := NB205_216.out
             have hcz110_0 : wc.cell? ⟨gb216, 0, none⟩ = some (.slice Ao19 t209.length co19) := (blk_cell BK216.out 0).trans rfl
             have hcz110_1 : wc.cell? ⟨gb216, 1, none⟩ = some (.string t212) := (blk_cell BK216.out 1).trans rfl
             have hcz110_2 : wc.cell? ⟨gb216, 2, none⟩ = some (.string t213) := (blk_cell BK216.out 2).trans rfl
             have hcz110_3 : wc.cell? ⟨gb216, 3, none⟩ = some (.int .i64 t214) := (blk_cell BK216.out 3).trans rfl
             have hfz110_0 := blk_frozen BK216.out 0
             have hfz110_1 := blk_frozen BK216.out 1
             have hfz110_2 := blk_frozen BK216.out 2
             have hfz110_3 := blk_frozen BK216.out 3
             go_wp2_with (first | ((with_reducible refine gate_callee (f := 11) rfl ?_); refine goesL_ (some 64) rfl rfl Try.func11 (by kernel_rfl) rfl #[.agg #[.slice Ao19 t209.length co19, .string t212, .string t213, .int .i64 t214], .int .i64 1] rfl (by (try simp only [List.map_toArray, List.map_cons, List.map_nil]); first | done | rfl | (simp only [List.length_drop, List.length_take]; rfl)) ?_; (with_reducible refine (laws_markConsole.calls kj36 (fun k_ => some k_ = (.slice Ao19 t209.length co19 : Value).ownBlock) (.slice Ao19 t209.length co19) t209 t212 t213 t214 1 t225 t226 w _ ?side1 ?side2 A54.out).mono ?_); (case side1 => repeat (first | (with_reducible first | exact HB.out | apply below_alloc | apply pw_below_drewN | apply below_drew1 | refine below_set ?_ GE205.out | refine below_set ?_ GE216.out) | exact HB.out)); (case side2 => exact Kd.R_tight rfl HO_217000.out); rintro e w111 ⟨rfl, hy0, hb, hkp⟩; refine ⟨_, rfl, ?_⟩; have n0_ := Aside0.mk (Kd.R_mono (ok' := fun k_ => some k_ ≠ (.slice Ao19 t209.length co19 : Value).ownBlock) (Kd.R_keptB (HO_206000.out) hkp (fun k_ hk_ hs_ => (hk_) hs_)) (fun k_ hk_ => hk_.1)); have n1_ := Aside0.mk (Kd.R_reok rfl hy0 (fun k_ e_ => HO_217000.out.1 k_ e_)); have n2_ := Aside0.mk (blk_kept BK205.out hkp (fun hs_ => (fun e_ => (Kd.R_ne HO_217000.out BK205.out (by decide)) e_) hs_)); have n3_ := Aside0.mk (blk_kept BK216.out hkp (fun hs_ => (fun e_ => (Kd.R_ne HO_217000.out BK216.out (by decide)) e_) hs_)); have n4_ := Aside0.mk (hb); clear HO_206000; clear HO_217000; clear BK205; clear BK216; clear HB; have HO_206000 := n0_; have HO_217000 := n1_; have BK205 := n2_; have BK216 := n3_; have HB := n4_; clear n0_ n1_ n2_ n3_ n4_; (try clear hb); (try clear hkp); (try clear hy0); have hcz112_0 : w111.cell? ⟨gb216, 0, none⟩ = some (.slice Ao19 t209.length co19) := (blk_cell BK216.out 0).trans rfl; have hcz112_1 : w111.cell? ⟨gb216, 1, none⟩ = some (.string t212) := (blk_cell BK216.out 1).trans rfl; have hcz112_2 : w111.cell? ⟨gb216, 2, none⟩ = some (.string t213) := (blk_cell BK216.out 2).trans rfl; have hcz112_3 : w111.cell? ⟨gb216, 3, none⟩ = some (.int .i64 t214) := (blk_cell BK216.out 3).trans rfl; have hfz112_0 := blk_frozen BK216.out 0; have hfz112_1 := blk_frozen BK216.out 1; have hfz112_2 := blk_frozen BK216.out 2; have hfz112_3 := blk_frozen BK216.out 3) | ((with_reducible refine gate_callee (f := 12) rfl ?_); refine goesL_ (some 67) rfl rfl Try.func12 (by kernel_rfl) rfl #[.agg #[.slice Ao19 t226.length co19, .string t212, .string t213, .int .i64 t214], .int .i64 1] rfl (by (try simp only [List.map_toArray, List.map_cons, List.map_nil]); first | done | (rw [show t226.length = t209.length from (Kd.R_reads' HO_217000.out).1.symm] <;> rfl) | rfl | (simp only [List.length_drop, List.length_take]; rfl)) ?_; (with_reducible refine (laws_heldConsole.calls kj36 _ _ t226 t212 t213 t214 1 t227 _ ?side1 ?side2 A55.out).mono ?_); (case side1 => repeat (first | exact (Kd.R_reads' HO_217000.out).2.2 | (with_reducible refine Kd.C_alloc ?_ _) | (with_reducible refine Kd.C_drewN ?_ _) | (with_reducible refine Kd.C_drew ?_))); (case side2 => rw [show t226.length = t209.length from (Kd.R_reads' HO_217000.out).1.symm]; exact (Kd.R_reads' HO_217000.out).2.1); rintro e w113 ⟨rfl, hb⟩; refine ⟨_, rfl, ?_⟩; have n0_ := Aside0.mk (Kd.R_below (by (with_reducible repeat (first | apply Kd.R_alloc | apply Kd.R_drewN | apply Kd.R_drew)); exact HO_206000.out) hb); have n1_ := Aside0.mk (Kd.R_below (by (with_reducible repeat (first | apply Kd.R_alloc | apply Kd.R_drewN | apply Kd.R_drew)); exact HO_217000.out) hb); have n2_ := Aside0.mk (blk_below (g := gb205) (o := .cells #[.slice Ao13 t198.length co13, .string t201, .string t202, .int .i64 t203] 28 (0, 0)) BK205.out hb); have n3_ := Aside0.mk (blk_below (g := gb216) (o := .cells #[.slice Ao19 t209.length co19, .string t212, .string t213, .int .i64 t214] 28 (0, 0)) BK216.out hb); have n4_ := Aside0.mk (below_step (by repeat (first | (with_reducible first | exact HB.out | apply below_alloc | apply pw_below_drewN | apply below_drew1 | refine below_set ?_ GE205.out | refine below_set ?_ GE216.out) | exact HB.out)) hb); clear HO_206000; clear HO_217000; clear BK205; clear BK216; clear HB; have HO_206000 := n0_; have HO_217000 := n1_; have BK205 := n2_; have BK216 := n3_; have HB := n4_; clear n0_ n1_ n2_ n3_ n4_; (try clear hb); (try clear hb2); (try clear hk); (try clear hi)))
             go_ret
             exact ⟨by first | rfl | (simp [errW_none, errW_some] <;> rfl) | (simp [*, errW_none, errW_some] <;> rfl), by repeat (first | (with_reducible first | exact HB.out | apply below_alloc | apply pw_below_drewN | apply below_drew1 | refine below_set ?_ GE205.out | refine below_set ?_ GE216.out) | exact HB.out)⟩
      ·
       replace c35 := Bool.eq_false_iff.mpr c35
       subst c35
       have H1 : (some false) = some r := by rw [if_neg (show ¬ (false = true) by decide)] at H; exact H
       exact absurd ((Option.some.inj H1).trans hrt_) (by decide)
end Go.Proofs.Ytlnlabndaikbnaa.P
