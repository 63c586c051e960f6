/- The laws' own helpers on lists of integers: a copy, an equality, marks and their check. -/
import Derived.Test.YtdhdifoenladpaaEv
import Derived.Test.YtdhdifoenladpaaPx3
import Derived.Test.YtdhdifoenladpaaPx5
namespace Go.Proofs.Ytdhdifoenladpaa.Pure
open Go.RowKit Go.Proofs.Ytdhdifoenladpaa.P Go.Proofs.YtdhdifoenladpaaW.PrintWords Go.Proofs.YtdhdifoenladpaaW.PrintLast

theorem toIntS_l0 (l : List Int) (hl : l.length ≤ 1048576) : ∀ (d i : Nat) (o : List Int), l.length - i = d → i ≤ l.length → o.length = l.length → o.take i = l.take i →
    Ev (fun k => laws_toIntS.l0 k l o (i : Int)) l := by
  intro d
  induction d with
  | zero =>
    intro i o hd hi ho ht
    refine Ev.step (fun k => by rw [laws_toIntS.l0]) ?_
    refine Ev.neg (by omega) (Ev.const ?_)
    have hi' : i = l.length := by omega
    subst hi'
    rw [List.take_of_length_le (by omega), List.take_of_length_le (by omega)] at ht
    rw [ht]
  | succ d ih =>
    intro i o hd hi ho ht
    refine Ev.step (fun k => by rw [laws_toIntS.l0]) ?_
    refine Ev.pos (by omega) (Ev.pos (by omega) (Ev.pos (by omega) ?_))
    rw [w64 (by omega) (by omega), show (i : Int) + 1 = ((i + 1 : Nat) : Int) from by omega]
    refine ih (i + 1) _ (by omega) (by omega) (by simpa using ho) ?_
    rw [rd_lt l i (by omega), Int.toNat_natCast, take_succ' _ _ (by simp; omega), take_succ' l _ (by omega)]
    rw [List.take_set_of_le (Nat.le_refl i), ht]; simp
theorem toIntS (l : List Int) (hl : l.length ≤ 1048576) : Ev (fun k => laws_toIntS.f k l) l := by
  unfold laws_toIntS.f
  refine Ev.pos (by omega) (Ev.pos (by omega) ?_)
  exact toIntS_l0 l hl _ 0 _ rfl (by omega) (by simp) (by simp)

theorem eqIntS_l0 (a b : List Int) (hl : a.length ≤ 4611686018427387904) (hab : a.length = b.length) : ∀ (d i : Nat), a.length - i = d → i ≤ a.length →
    Ev (fun k => laws_eqIntS.l0 k a b (i : Int)) (decide (a.drop i = b.drop i)) := by
  intro d
  induction d with
  | zero =>
    intro i hd hi
    refine Ev.step (fun k => by rw [laws_eqIntS.l0]) ?_
    refine Ev.neg (by omega) (Ev.const ?_)
    rw [List.drop_of_length_le (by omega), List.drop_of_length_le (by omega)]; simp
  | succ d ih =>
    intro i hd hi
    refine Ev.step (fun k => by rw [laws_eqIntS.l0]) ?_
    refine Ev.pos (by omega) (Ev.pos (by omega) (Ev.pos (by omega) ?_))
    rw [w64 (by omega) (by omega), show (i : Int) + 1 = ((i + 1 : Nat) : Int) from by omega, rd_lt a i (by omega), rd_lt b i (by omega), drop_cons' a i (by omega), drop_cons' b i (by omega)]
    refine Ev.cases (fun h => ?_) (fun h => ?_)
    · exact Ev.eq (ih (i + 1) (by omega) (by omega)) (by rw [h]; simp only [List.cons.injEq, true_and])
    · exact Ev.const (by rw [decide_eq_false (fun e => h (List.cons.inj e).1)])
theorem eqIntS (a b : List Int) (hl : a.length ≤ 4611686018427387904) : Ev (fun k => laws_eqIntS.f k a b) (decide (a = b)) := by
  unfold laws_eqIntS.f
  refine Ev.cases (fun h => ?_) (fun h => ?_)
  · exact Ev.eq (eqIntS_l0 a b hl (by omega) _ 0 rfl (by omega)) (by simp)
  · refine Ev.const ?_
    congr 1
    refine (decide_eq_false fun e => h ?_).symm
    rw [e]
end Go.Proofs.Ytdhdifoenladpaa.Pure
