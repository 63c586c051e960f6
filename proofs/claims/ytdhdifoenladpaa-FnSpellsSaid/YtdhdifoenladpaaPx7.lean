-- Made by pp.py of this session out of the kit's print and of contracts proved by hand; Lean checks it.
import Derived.Test.YtdhdifoenladpaaPx0
import Derived.Test.YtdhdifoenladpaaPx1
import Derived.Test.YtdhdifoenladpaaPx6
namespace Go.Proofs.Ytdhdifoenladpaa.P
open Go.RowKit Go.Proofs.YtdhdifoenladpaaW.PrintWords Go.Proofs.YtdhdifoenladpaaW.PrintLast Go.Proofs.YtdhdifoenladpaaW.PrintMore
attribute [local go_sem] max2_int min2_int max_two min_two max_three min_three max_four min_four   -- for this text's walks alone
set_option linter.unusedVariables false
set_option linter.unusedSimpArgs false

-- ALONE
/-! ### impl_knownValues: function 59 -/
def known (l : List Int) : List Int := l.filter fun n => n != -9999
theorem missing_gives (W : World) (x : Int) : FnGives Try.prog 82 #[] #[.int .i64 x] (.bool (x == -9999)) W := by
  show Calls Try.prog 82 #[.int .i64 x] W fun e w' => e = .returned (.bool (x == -9999)) ∧ ∃ q, w' = W.drewN q
  go_enter Try.func82, Try.ntmps82
  go_wp2
  go_ret
  exact ⟨rfl, 0, rfl⟩
def impl_knownValues.f (l0 : List Int) : Option (List Int) := if l0.length < 17592186044416 then some (known l0) else none
set_option maxHeartbeats 8000000 in
set_option maxRecDepth 100000 in
theorem impl_knownValues.calls (A0 : Option Addr) (c0 : Nat) (l0 : List Int) (r : List Int) (w : World) (hr0 : Kd.C (Kd.int .i64) w A0 l0.length l0) (hc0 : l0.length ≤ c0) (h : impl_knownValues.f l0 = some r) :
    Calls Try.prog 59 #[.slice A0 l0.length c0] w fun e w' => ∃ v0_ : Value, e = .returned (v0_) ∧ Kd.R (Kd.int .i64) 3 w' w.heap.size (fun _ => True) v0_ r ∧ Below w.heap.size w w' := by
  have HR0 := Aside0.mk hr0
  have hE : known l0 = l0.filter (fun x => !(x == -9999)) := rfl
  unfold impl_knownValues.f at h
  by_cases c2 : l0.length < 17592186044416
  · rw [if_pos c2, hE] at h
    obtain rfl := Option.some.inj h
    have hcl := slices_Clone_int_int.calls A0 c0 l0 l0 w hr0 hc0 (by unfold slices_Clone_int_int.f; rw [if_pos c2])
    have hdel := fun v W => lib_DeleteFunc_int 82 (fun x => x == -9999) w.heap.size v l0 W (enters_of Try.func82 (by kernel_rfl) rfl) missing_gives
    clear hr0 hc0 h c2 hE HR0
    generalize l0.filter (fun x => !(x == -9999)) = r at hdel ⊢
    have HD := Aside0.mk hdel
    clear hdel
    go_enter Try.func59, Try.ntmps59
    go_wp2_with (first | (go_at_call 65; refine hcl.mono ?_; rintro e w1 ⟨v1, rfl, hR, hB⟩; have HR1 := Aside0.mk hR; have HB1 := Aside0.mk hB; clear hR hB) | (go_at_call 81; refine (HD.out _ _ HR1.out).mono ?_; rintro e w2 ⟨v2, rfl, hR, hB⟩; have HR2 := Aside0.mk hR; have HB2 := Aside0.mk (hB _ HB1.out); clear hR hB))
    go_ret
    exact ⟨_, rfl, HR2.out, HB2.out⟩
  · rw [if_neg c2] at h; cases h

end Go.Proofs.Ytdhdifoenladpaa.P
