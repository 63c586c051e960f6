-- Made by pp.py of this session out of the kit's print and of contracts proved by hand; Lean checks it.
import Derived.Test.YtdmkbfjipgaloaaMc
import Derived.Test.YtdmkbfjipgaloaaPx0
import Derived.Test.YtdmkbfjipgaloaaPx2
import Derived.Test.YtdmkbfjipgaloaaPx3
namespace Go.Proofs.Ytdmkbfjipgaloaa.P
open Go.RowKit Go.Proofs.YtdmkbfjipgaloaaW.PrintWords Go.Proofs.YtdmkbfjipgaloaaW.PrintLast Go.Proofs.YtdmkbfjipgaloaaW.PrintMore
attribute [local go_sem] max2_int min2_int max_two min_two max_three min_three max_four min_four   -- for this text's walks alone
set_option linter.unusedVariables false
set_option linter.unusedSimpArgs false

-- ALONE
/-! ### impl_IsValidField: function 80 -/
/-- One cell of a field or series: missing, or within the bounds. -/
def cellB (n : Int) : Bool := n == -9999 || (decide (-9000 ≤ n) && decide (n ≤ 9000))
theorem isCell_f (n : Int) : impl_isCell.f n = some (cellB n) := by
  unfold impl_isCell.f impl_within.f cellB
  by_cases h1 : n = -9999
  · simp [h1]
  · by_cases h2 : n ≥ -9000
    · simp [h1, h2]
    · simp [h1, h2]
def sideB (n : Int) : Bool := decide (1 ≤ n) && decide (n ≤ 8)
theorem within_side (n : Int) (b : Bool) (h : sideB n = b) : impl_within.f n 1 8 = some b := by
  subst h; unfold impl_within.f sideB
  by_cases h2 : n ≥ 1
  · simp [h2]
  · simp [h2]
/-- A valid field. -/
def fieldB (a b : Int) (l : List Int) : Bool := (sideB a && sideB b) && (((l.length : Int) == a * b) && l.all cellB)
set_option maxHeartbeats 1000000 in
theorem notCell_pred (xs : List Int) (w : World) : PredInt 99 #[] (fun n => !cellB n) xs w := by
  intro W x _ _
  show Calls Try.prog 99 #[.int .i64 x] W fun e w' => e = .returned (.bool (!cellB x)) ∧ Drawn0 W w'
  have hc := impl_isCell.calls x (cellB x) W (isCell_f x)
  generalize cellB x = b at hc ⊢
  go_enter Try.func99, Try.ntmps99
  go_wp2_with (go_at_call 59; refine hc.mono ?_; rintro e w' ⟨rfl, ⟨q', rfl⟩⟩)
  go_ret
  exact ⟨rfl, mc338⟩
theorem all_not_any (l : List Int) (p : Int → Bool) : (!l.any fun n => !p n) = l.all p := by
  induction l with
  | nil => rfl
  | cons x xs ih => simp only [List.any_cons, List.all_cons, Bool.not_or, Bool.not_not, ih]
theorem side_mul {a b : Int} (ha : sideB a = true) (hb : sideB b = true) : 1 ≤ a * b ∧ a * b ≤ 64 := by
  simp only [sideB, Bool.and_eq_true, decide_eq_true_eq] at ha hb
  have h1 := Int.mul_le_mul ha.2 hb.2 (by omega) (by omega)
  have h2 := Int.mul_le_mul ha.1 hb.1 (by omega) (by omega)
  omega
def impl_IsValidField.f (a b : Int) (l : List Int) : Option Bool := some (fieldB a b l)
set_option maxHeartbeats 8000000 in
set_option maxRecDepth 100000 in
theorem impl_IsValidField.calls (a0_0 : Int) (a0_1 : Int) (A0_2 : Option Addr) (c0_2 : Nat) (l0_2 : List Int) (r : Bool) (w : World) (hr0_2 : Kd.C (Kd.int .i64) w A0_2 l0_2.length l0_2) (hc0_2 : l0_2.length ≤ c0_2) (h : impl_IsValidField.f a0_0 a0_1 l0_2 = some r) :
    Calls Try.prog 80 #[.agg #[.int .i64 a0_0, .int .i64 a0_1, .slice A0_2 l0_2.length c0_2]] w fun e w' => e = .returned (.bool r) ∧ Below w.heap.size w w' := by
  have HR := A_ hr0_2
  have HB := A_ (Below.refl w.heap.size w)
  clear hr0_2 hc0_2
  obtain rfl := Option.some.inj h
  clear h
  cases h1 : sideB a0_0 with
  | false =>
    have E := A_ (show fieldB a0_0 a0_1 l0_2 = false by unfold fieldB; rw [h1]; rfl)
    have c1 := fun W => impl_within.calls a0_0 1 8 false W (within_side _ _ h1)
    clear h1
    go_enter Try.func80, Try.ntmps80
    go_wp2_with (go_at_call 68; refine (c1 _).mono ?_; rintro e w' ⟨rfl, ⟨q', rfl⟩⟩)
    go_ret
    exact ⟨by rw [E.out]; rfl, mc249⟩
  | true =>
  cases h2 : sideB a0_1 with
  | false =>
    have E := A_ (show fieldB a0_0 a0_1 l0_2 = false by unfold fieldB; rw [h1, h2]; rfl)
    have c1 := fun W => impl_within.calls a0_0 1 8 true W (within_side _ _ h1)
    have c2 := fun W => impl_within.calls a0_1 1 8 false W (within_side _ _ h2)
    clear h1 h2
    go_enter Try.func80, Try.ntmps80
    go_wp2_with (first | (go_at_call 68; (with_reducible refine (c1 _).mono ?_); rintro e w' ⟨rfl, ⟨q', rfl⟩⟩) | (go_at_call 68; (with_reducible refine (c2 _).mono ?_); rintro e w' ⟨rfl, ⟨q', rfl⟩⟩))
    go_ret
    exact ⟨by rw [E.out]; rfl, mc249⟩
  | true =>
  have hm := side_mul h1 h2
  have hw : wrap64 (a0_0 * a0_1) = a0_0 * a0_1 := by unfold wrap64; omega
  have c1 := fun W => impl_within.calls a0_0 1 8 true W (within_side _ _ h1)
  have c2 := fun W => impl_within.calls a0_1 1 8 true W (within_side _ _ h2)
  cases h3 : ((l0_2.length : Int) == a0_0 * a0_1) with
  | false =>
    have E := A_ (show fieldB a0_0 a0_1 l0_2 = false by unfold fieldB; rw [h1, h2, h3]; rfl)
    clear h1 h2 hm
    go_enter Try.func80, Try.ntmps80
    go_wp2_with (first | (go_at_call 68; (with_reducible refine (c1 _).mono ?_); rintro e w' ⟨rfl, ⟨q', rfl⟩⟩) | (go_at_call 68; (with_reducible refine (c2 _).mono ?_); rintro e w' ⟨rfl, ⟨q', rfl⟩⟩))
    go_ret
    exact ⟨by rw [E.out]; rfl, mc249⟩
  | true =>
    have E := A_ (show fieldB a0_0 a0_1 l0_2 = (!l0_2.any fun n => !cellB n) by unfold fieldB; rw [h1, h2, h3, all_not_any]; rfl)
    have hcon := fun W hC => lib_ContainsFunc_int 99 #[] (fun n => !cellB n) A0_2 c0_2 l0_2 W (enters_of Try.func99 kr_ rfl) hC (notCell_pred l0_2 _)
    clear h1 h2 hm
    generalize (l0_2.any fun n => !cellB n) = b at hcon E
    go_enter Try.func80, Try.ntmps80
    go_wp2_with (first | (go_at_call 68; (with_reducible refine (c1 _).mono ?_); rintro e w' ⟨rfl, ⟨q', rfl⟩⟩) | (go_at_call 68; (with_reducible refine (c2 _).mono ?_); rintro e w' ⟨rfl, ⟨q', rfl⟩⟩) | (go_at_call 98; refine (hcon _ (Kd.C_below HR.out mc249)).mono ?_; rintro e w' ⟨rfl, ⟨q', rfl⟩⟩))
    go_ret
    exact ⟨by rw [E.out]; rfl, mc249⟩

end Go.Proofs.Ytdmkbfjipgaloaa.P
