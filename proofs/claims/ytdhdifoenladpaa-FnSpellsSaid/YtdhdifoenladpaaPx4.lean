-- Made by pp.py of this session out of the kit's print and of contracts proved by hand; Lean checks it.
import Derived.Test.YtdhdifoenladpaaPx0
import Derived.Test.YtdhdifoenladpaaPx2
import Derived.Test.YtdhdifoenladpaaPx3
namespace Go.Proofs.Ytdhdifoenladpaa.P
open Go.RowKit Go.Proofs.YtdhdifoenladpaaW.PrintWords Go.Proofs.YtdhdifoenladpaaW.PrintLast Go.Proofs.YtdhdifoenladpaaW.PrintMore
attribute [local go_sem] max2_int min2_int max_two min_two max_three min_three max_four min_four   -- for this text's walks alone
set_option linter.unusedVariables false
set_option linter.unusedSimpArgs false

-- ALONE
/-! ### impl_IsValidSeries: function 17 -/
/-- One cell of a field or series: missing, or within the bounds. -/
def cellB (n : Int) : Bool := n == -9999 || (decide (-9000 ≤ n) && decide (n ≤ 9000))
theorem isCell_f (n : Int) : impl_isCell.f n = some (cellB n) := by
  unfold impl_isCell.f impl_within.f cellB
  by_cases h1 : n = -9999
  · simp [h1]
  · by_cases h2 : n ≥ -9000
    · simp [h1, h2]
    · simp [h1, h2]
def seriesB (l : List Int) : Bool := (decide (1 ≤ (l.length : Int)) && decide ((l.length : Int) ≤ 60)) && l.all cellB
theorem within_len (n : Int) (b : Bool) (h : (decide (1 ≤ n) && decide (n ≤ 60)) = b) : impl_within.f n 1 60 = some b := by
  subst h; unfold impl_within.f
  by_cases h2 : n ≥ 1
  · simp [h2]
  · simp [h2]
set_option maxHeartbeats 1000000 in
theorem notCell_pred (xs : List Int) (w : World) : PredInt 51 #[] (fun n => !cellB n) xs w := by
  intro W x _ _
  show Calls Try.prog 51 #[.int .i64 x] W fun e w' => e = .returned (.bool (!cellB x)) ∧ Drawn0 W w'
  have hc := impl_isCell.calls x (cellB x) W (isCell_f x)
  generalize cellB x = b at hc ⊢
  go_enter Try.func51, Try.ntmps51
  go_wp2_with (go_at_call 52; refine hc.mono ?_; rintro e w' ⟨rfl, ⟨q', rfl⟩⟩)
  go_ret
  exact ⟨rfl, by repeat (first | exact Drawn0.refl _ | apply Drawn0.step)⟩
theorem all_not_any (l : List Int) (p : Int → Bool) : (!l.any fun n => !p n) = l.all p := by
  induction l with
  | nil => rfl
  | cons x xs ih => simp only [List.any_cons, List.all_cons, Bool.not_or, Bool.not_not, ih]
def impl_IsValidSeries.f (l0 : List Int) : Option Bool := some (seriesB l0)
set_option maxHeartbeats 8000000 in
set_option maxRecDepth 100000 in
theorem impl_IsValidSeries.calls (A0 : Option Addr) (c0 : Nat) (l0 : List Int) (r : Bool) (w : World) (hr0 : Kd.C (Kd.int .i64) w A0 l0.length l0) (hc0 : l0.length ≤ c0) (h : impl_IsValidSeries.f l0 = some r) :
    Calls Try.prog 17 #[.slice A0 l0.length c0] w fun e w' => e = .returned (.bool r) ∧ Drawn0 w w' := by
  have HR0 := Aside0.mk hr0
  clear hr0 hc0
  obtain rfl := Option.some.inj h
  clear h
  have hcon := fun q => lib_ContainsFunc_int 51 #[] (fun n => !cellB n) A0 c0 l0 (w.drewN q) (enters_of Try.func51 (by kernel_rfl) rfl) (Kd.C_drewN HR0.out q) (notCell_pred l0 _)
  have hE : seriesB l0 = ((decide (1 ≤ (l0.length : Int)) && decide ((l0.length : Int) ≤ 60)) && (!l0.any fun n => !cellB n)) := by rw [all_not_any]; rfl
  have E := Aside0.mk hE
  clear hE
  cases hb : (decide (1 ≤ (l0.length : Int)) && decide ((l0.length : Int) ≤ 60)) with
  | true =>
    have hw := fun W => impl_within.calls (l0.length : Int) 1 60 true W (within_len _ _ hb)
    rw [hb, Bool.true_and] at E
    clear hb
    generalize (l0.any fun n => !cellB n) = b at hcon E
    go_enter Try.func17, Try.ntmps17
    go_wp2_with (first | (go_at_call 49; refine (hw _).mono ?_; rintro e w' ⟨rfl, ⟨q', rfl⟩⟩) | (go_at_call 50; refine (hcon _).mono ?_; rintro e w' ⟨rfl, ⟨q', rfl⟩⟩))
    go_ret
    exact ⟨by rw [E.out]; rfl, by repeat (first | exact Drawn0.refl _ | apply Drawn0.step)⟩
  | false =>
    have hw := fun W => impl_within.calls (l0.length : Int) 1 60 false W (within_len _ _ hb)
    rw [hb, Bool.false_and] at E
    clear hb hcon
    go_enter Try.func17, Try.ntmps17
    go_wp2_with (go_at_call 49; refine (hw _).mono ?_; rintro e w' ⟨rfl, ⟨q', rfl⟩⟩)
    go_ret
    exact ⟨by rw [E.out]; rfl, by repeat (first | exact Drawn0.refl _ | apply Drawn0.step)⟩

end Go.Proofs.Ytdhdifoenladpaa.P
