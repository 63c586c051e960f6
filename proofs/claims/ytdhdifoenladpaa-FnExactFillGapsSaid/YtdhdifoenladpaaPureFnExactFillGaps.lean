/- The program's FillGaps returns what the reference's returns, for all arguments. Conditions: none beyond the given statement's. -/
import Derived.Test.YtdhdifoenladpaaCs
import Derived.Test.YtdhdifoenladpaaCm
import Derived.Test.YtdhdifoenladpaaFil
import Derived.Test.YtdhdifoenladpaaPx28
namespace Go.Proofs.Ytdhdifoenladpaa.Pure
open Go.RowKit Go.Proofs.Ytdhdifoenladpaa.P Go.Proofs.YtdhdifoenladpaaW.PrintWords Go.Proofs.YtdhdifoenladpaaW.PrintLast

theorem FnExactFillGaps : laws_FnExactFillGaps.Pure := by
  intro l0 _ _ _
  apply Ev.rounds
  unfold laws_FnExactFillGaps.f
  refine Ev.cases (fun _ => Ev.now _) (fun hl => ?_)
  have hl : l0.length ≤ 1048576 := by omega
  obtain ⟨r, b, hr, hi, hlen, _⟩ := fillGaps l0 hl
  have t := toIntS l0 hl
  have e1 := eqIntS r r (by omega)
  have e2 := eqIntS l0 l0 (by omega)
  have m1 := mark r (by omega)
  have m2 := mark l0 (by omega)
  have h1 := held r.length (by omega)
  refine Ev.bind t (Ev.bind hr (Ev.bind t (Ev.bind hi (Ev.bind e1 (Ev.pos (by simp) ?_)))))
  refine Ev.step (fun k => by rw [laws_FnExactFillGaps.j0]) ?_
  refine (Ev.neg (by simp) (Ev.bind t (Ev.bind e2 (Ev.pos (by simp) (Ev.bind m2 (Ev.neg (by simp only; omega) (Ev.bind e1 (Ev.pos (by simp) ?_))))))))
  refine Ev.step (fun k => by rw [laws_FnExactFillGaps.j1]) ?_
  refine (Ev.neg (by simp) (Ev.bind m1 (Ev.bind h1 (Ev.neg (by omega) (Ev.pos rfl (Ev.bind t (Ev.bind hi (Ev.bind e1 (Ev.pos (by simp) ?_)))))))))
  refine Ev.step (fun k => by rw [laws_FnExactFillGaps.j2]) ?_
  exact (Ev.neg (by simp) (Ev.bind h1 (Ev.neg (by omega) (Ev.pos rfl (Ev.now _)))))
end Go.Proofs.Ytdhdifoenladpaa.Pure
