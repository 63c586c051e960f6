-- Made by pp.py of this session out of the kit's print and of contracts proved by hand; Lean checks it.
import Derived.Test.YtdmkbfjipgaloaaMc
import Derived.Test.YtdmkbfjipgaloaaPx0
import Derived.Test.YtdmkbfjipgaloaaPx1
import Derived.Test.YtdmkbfjipgaloaaPx5
namespace Go.Proofs.Ytdmkbfjipgaloaa.P
open Go.RowKit Go.Proofs.YtdmkbfjipgaloaaW.PrintWords Go.Proofs.YtdmkbfjipgaloaaW.PrintLast Go.Proofs.YtdmkbfjipgaloaaW.PrintMore
attribute [local go_sem] max2_int min2_int max_two min_two max_three min_three max_four min_four   -- for this text's walks alone
set_option linter.unusedVariables false
set_option linter.unusedSimpArgs false

-- ALONE
/-! ### impl_valuesOf: function 96 -/
def valuesB (l : List Int) : List Int := l.filter fun n => n != -9999
theorem missing_givesV (W : World) (x : Int) : FnGives Try.prog 109 #[] #[.int .i64 x] (.bool (x == -9999)) W := by
  show Calls Try.prog 109 #[.int .i64 x] W fun e w' => e = .returned (.bool (x == -9999)) ∧ ∃ q, w' = W.drewN q
  go_enter Try.func109, Try.ntmps109
  go_wp2
  go_ret
  exact ⟨rfl, 0, rfl⟩
def impl_valuesOf.f (_ _ : Int) (l : List Int) : Option (List Int) := if l.length < 17592186044416 then some (valuesB l) else none
set_option maxHeartbeats 8000000 in
set_option maxRecDepth 100000 in
theorem impl_valuesOf.calls (a0_0 : Int) (a0_1 : Int) (A0_2 : Option Addr) (c0_2 : Nat) (l0_2 : List Int) (r : List Int) (w : World) (hr0_2 : Kd.C (Kd.int .i64) w A0_2 l0_2.length l0_2) (hc0_2 : l0_2.length ≤ c0_2) (h : impl_valuesOf.f a0_0 a0_1 l0_2 = some r) :
    Calls Try.prog 96 #[.agg #[.int .i64 a0_0, .int .i64 a0_1, .slice A0_2 l0_2.length c0_2]] w fun e w' => ∃ v0_ : Value, e = .returned (v0_) ∧ Kd.R (Kd.int .i64) 3 w' w.heap.size (fun _ => True) v0_ r ∧ Below w.heap.size w w' := by
  have HB := A_ (Below.refl w.heap.size w)
  have hE : valuesB l0_2 = l0_2.filter (fun x => !(x == -9999)) := rfl
  unfold impl_valuesOf.f at h
  by_cases c2 : l0_2.length < 17592186044416
  · rw [if_pos c2, hE] at h
    obtain rfl := Option.some.inj h
    have HCL := A_ (fun W (hB : Below w.heap.size w W) => slices_Clone_int_int.calls A0_2 c0_2 l0_2 l0_2 W (Kd.C_below hr0_2 hB) hc0_2 (by unfold slices_Clone_int_int.f; rw [if_pos c2]))
    have HD := A_ (fun v W => lib_DeleteFunc_int 109 (fun x => x == -9999) w.heap.size v l0_2 W (enters_of Try.func109 kr_ rfl) missing_givesV)
    clear hr0_2 hc0_2 h c2 hE
    generalize l0_2.filter (fun x => !(x == -9999)) = r at HD ⊢
    go_enter Try.func96, Try.ntmps96
    go_wp2_with (first | (go_at_call 100; refine (HCL.out _ mc249).mono ?_; rintro e w1 ⟨v1, rfl, hR, hB⟩; have HR1 := A_ (Kd.R_lower hR (below_size mc249)); have HB1 := A_ (below_step mc249 hB); clear hR hB) | (go_at_call 108; refine (HD.out _ _ HR1.out).mono ?_; rintro e w2 ⟨v2, rfl, hR, hB⟩; have HR2 := A_ hR; have HB2 := A_ (hB _ HB1.out); clear hR hB))
    go_ret
    exact ⟨_, rfl, HR2.out, HB2.out⟩
  · rw [if_neg c2] at h; cases h

end Go.Proofs.Ytdmkbfjipgaloaa.P
