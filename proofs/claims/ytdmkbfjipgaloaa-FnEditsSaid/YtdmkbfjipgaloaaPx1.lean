-- Made by pp.py of this session out of the kit's print and of contracts proved by hand; Lean checks it.
import Derived.Lib.OwnBridge
import Derived.Shelf.SlicesE.DeleteFunc
import Derived.Test.YtdmkbfjipgaloaaShelf
import Derived.Shelf.Abstract
import Derived.Test.YtdmkbfjipgaloaaPx0
namespace Go.Proofs.Ytdmkbfjipgaloaa.P
open Go.RowKit Go.Proofs.YtdmkbfjipgaloaaW.PrintWords Go.Proofs.YtdmkbfjipgaloaaW.PrintLast Go.Proofs.YtdmkbfjipgaloaaW.PrintMore
attribute [local go_sem] max2_int min2_int max_two min_two max_three min_three max_four min_four   -- for this text's walks alone
set_option linter.unusedVariables false
set_option linter.unusedSimpArgs false

-- ALONE
/-! ### lib deleteInt -/
open Go.Sort Go.Shelf in
set_option maxHeartbeats 2000000 in
/-- slices.DeleteFunc over a row of the call's own, with a closure that reads no memory. -/
theorem lib_DeleteFunc_int (g : Nat) (p : Int → Bool) (B : Nat) (v : Value) (xs : List Int) (w : World)
    (eg : ∀ args w, (callFunc g args).run Try.prog w = .ok (.enter g args) w)
    (hp : ∀ (W : World) (x : Int), FnGives Try.prog g #[] #[.int .i64 x] (.bool (p x)) W)
    (HO : Kd.R (Kd.int .i64) 3 w B (fun _ => True) v xs) :
    Calls Try.prog 108 #[v, .func (.func g) #[] #[]] w fun e w' => ∃ v' : Value, e = .returned v' ∧ Kd.R (Kd.int .i64) 3 w' B (fun _ => True) v' (xs.filter fun x => !p x) ∧ (∀ w0 : World, Below B w0 w → Below B w0 w') := by
  have ho := Kd.own_of_R (enc := Value.int .i64) (h1 := fun _ => rfl) HO
  by_cases hv : v = .slice none 0 0
  · subst hv
    have hx : xs = [] := by
      rcases ho.2 with ⟨_, h⟩ | ⟨_, _, _, h, _⟩
      · exact List.eq_nil_of_length_eq_zero h
      · cases h
    subst hx
    clear ho HO hp
    have hi := Try.slices_IndexFunc_empty (α := Int) none 0 (.func (.func g) #[] #[]) w
    go_enter Try.func108, Try.ntmps108
    go_wp2_with (go_at_call 110; refine hi.mono ?_; rintro e w' ⟨rfl, rfl⟩)
    go_ret
    exact ⟨_, rfl, Kd.R_nil _ _ _ _ _, fun w0 h => h⟩
  · obtain ⟨gb, cap, rfl, hb, hlt, hcap, hmx, hl, hH⟩ := Lib.holds_of_ownsRow (enc := Value.int .i64) (zs := xs) ho hv
    have hc := Try.slices_DeleteFunc (Value.int .i64) (fun _ => rfl) p g #[] eg 0 Try.zeroValue3 gb 0 cap xs.toArray w (fun W x _ => hp W x) (fun _ _ _ x _ => hp _ x) hH (by simp only [maxLen] at hmx; simp; omega) (by simpa using hcap)
    simp only [List.size_toArray] at hc
    refine hc.mono ?_
    rintro e w' ⟨rfl, q, rfl⟩
    have hle : (xs.filter fun x => !p x).length ≤ xs.length := List.length_filter_le _ _
    have h1 := Lib.ownsRow_putRow (q := q) (k := (xs.filter fun x => !p x).length) (ys := (xs.filter fun x => !p x) ++ List.replicate (xs.length - (xs.filter fun x => !p x).length) 0) ho (by simp; omega) hle
    rw [List.take_left] at h1
    exact ⟨_, rfl, Kd.R_of_own h1 (fun _ _ => trivial), fun w0 h => Lib.below_putRow h hb⟩

end Go.Proofs.Ytdmkbfjipgaloaa.P
