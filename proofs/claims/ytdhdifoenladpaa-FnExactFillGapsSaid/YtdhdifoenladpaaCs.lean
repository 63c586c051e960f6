/- The reference's test of a series is the program's. -/
import Derived.Test.YtdhdifoenladpaaCo
import Derived.Test.YtdhdifoenladpaaPx3
import Derived.Test.YtdhdifoenladpaaPx4
namespace Go.Proofs.Ytdhdifoenladpaa.Pure
open Go.RowKit Go.Proofs.Ytdhdifoenladpaa.P Go.Proofs.YtdhdifoenladpaaW.PrintWords Go.Proofs.YtdhdifoenladpaaW.PrintLast

theorem l1In_f (x a b : Int) : spec_l1In.f x a b = some (decide (a ≤ x) && decide (x ≤ b)) := by
  unfold spec_l1In.f
  by_cases h : x ≥ a
  · simp [h]
  · simp [h]
theorem within_f (x a b : Int) : impl_within.f x a b = some (decide (a ≤ x) && decide (x ≤ b)) := by
  unfold impl_within.f
  by_cases h : x ≥ a
  · simp [h]
  · simp [h]
theorem threshold_f (x : Int) : spec_l13Threshold.f x = some (decide (-9000 ≤ x) && decide (x ≤ 9000)) := by
  unfold spec_l13Threshold.f; rw [l1In_f]; rfl

theorem l24Good_l0 (l : List Int) (hl : l.length ≤ 1048576) : ∀ (d i : Nat), l.length - i = d → i ≤ l.length →
    Ev (fun k => spec_l24Good.l0 k l (i : Int)) ((l.drop i).all cellB && (decide (1 ≤ (l.length : Int)) && decide ((l.length : Int) ≤ 60))) := by
  intro d
  induction d with
  | zero =>
    intro i hd hi
    refine Ev.step (fun k => by rw [spec_l24Good.l0]) ?_
    refine Ev.neg (by omega) (Ev.const ?_)
    rw [l1In_f, List.drop_of_length_le (by omega)]; rfl
  | succ d ih =>
    intro i hd hi
    refine Ev.step (fun k => by rw [spec_l24Good.l0]) ?_
    refine Ev.pos (by omega) (Ev.pos (by omega) ?_)
    have e := ih (i + 1) (by omega) (by omega)
    rw [w64 (by omega) (by omega), show (i : Int) + 1 = ((i + 1 : Nat) : Int) from by omega, rd_lt l i (by omega), drop_cons' l i (by omega), List.all_cons]
    refine Ev.cases (fun h => ?_) (fun h => ?_)
    · exact Ev.eq e (by simp [cellB, h])
    · refine Ev.bindc (threshold_f _) ?_
      refine Ev.cases (fun h' => ?_) (fun h' => ?_)
      · exact Ev.eq e (by simp only [cellB, h', Bool.or_true, Bool.true_and])
      · refine Ev.const ?_
        have : cellB l[i] = false := by simp only [cellB]; simp at h' ⊢; exact ⟨h, h'⟩
        rw [this]; rfl
theorem l24Good (l : List Int) (hl : l.length ≤ 1048576) : Ev (fun k => spec_l24Good.f k l) (seriesB l) := by
  unfold spec_l24Good.f
  exact Ev.eq (l24Good_l0 l hl _ 0 rfl (by omega)) (by unfold seriesB; rw [List.drop_zero, Bool.and_comm])
end Go.Proofs.Ytdhdifoenladpaa.Pure
