/- The program's IsValidSeries returns what the reference's returns, for all arguments. Conditions: none beyond the given statement's. -/
import Derived.Test.YtdhdifoenladpaaCs
import Derived.Test.YtdhdifoenladpaaPx5
namespace Go.Proofs.Ytdhdifoenladpaa.Pure
open Go.RowKit Go.Proofs.Ytdhdifoenladpaa.P Go.Proofs.YtdhdifoenladpaaW.PrintWords Go.Proofs.YtdhdifoenladpaaW.PrintLast

theorem FnExactIsValidSeries : laws_FnExactIsValidSeries.Pure := by
  intro l0 _ _ _
  apply Ev.rounds
  unfold laws_FnExactIsValidSeries.f
  refine Ev.cases (fun _ => Ev.now _) (fun hl => ?_)
  have hl : l0.length ≤ 1048576 := by omega
  refine Ev.bind (toIntS l0 hl) ?_
  refine Ev.bind (a := seriesB l0) (by unfold spec_IsValidSeries.f; exact Ev.bind (l24Good l0 hl) (Ev.now _)) ?_
  refine Ev.bind (toIntS l0 hl) ?_
  refine Ev.bindc (show impl_IsValidSeries.f l0 = some (seriesB l0) from rfl) ?_
  refine Ev.neg (by simp) ?_
  refine Ev.bind (toIntS l0 hl) ?_
  refine Ev.bind (eqIntS l0 l0 (by omega)) ?_
  exact Ev.pos (by simp) (Ev.now _)
end Go.Proofs.Ytdhdifoenladpaa.Pure
