/- The program's AnomalyOf returns what the reference's returns, for all arguments. Conditions: none beyond the given statement's. -/
import Derived.Test.YtdhdifoenladpaaMea
import Derived.Test.YtdhdifoenladpaaPx33
namespace Go.Proofs.Ytdhdifoenladpaa.Pure
open Go.RowKit Go.Proofs.Ytdhdifoenladpaa.P Go.Proofs.YtdhdifoenladpaaW.PrintWords Go.Proofs.YtdhdifoenladpaaW.PrintLast

theorem FnExactAnomalyOf : laws_FnExactAnomalyOf.Pure := by
  intro l0 a1 _ _ _ _
  apply Ev.rounds
  unfold laws_FnExactAnomalyOf.f
  refine Ev.cases (fun _ => Ev.now _) (fun hl => ?_)
  have hl : l0.length ≤ 1048576 := by omega
  obtain ⟨r, hr1, hr2, _⟩ := anomalyOf l0 hl a1
  have t := toIntS l0 hl
  refine Ev.bind t (Ev.bind hr1 (Ev.bind t (Ev.bind hr2 ?_)))
  refine Ev.pos rfl (Ev.pos rfl ?_)
  refine Ev.step (fun k => by rw [laws_FnExactAnomalyOf.j0]) ?_
  exact Ev.neg (by simp) (Ev.bind t (Ev.bind (eqIntS l0 l0 (by omega)) (Ev.pos (by simp) (Ev.now _))))
end Go.Proofs.Ytdhdifoenladpaa.Pure
