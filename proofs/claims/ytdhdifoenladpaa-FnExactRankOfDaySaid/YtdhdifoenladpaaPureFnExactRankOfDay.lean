/- The program's RankOfDay returns what the reference's returns, for all arguments. Conditions: none beyond the given statement's. -/
import Derived.Test.YtdhdifoenladpaaClm
import Derived.Test.YtdhdifoenladpaaPx17
namespace Go.Proofs.Ytdhdifoenladpaa.Pure
open Go.RowKit Go.Proofs.Ytdhdifoenladpaa.P Go.Proofs.YtdhdifoenladpaaW.PrintWords Go.Proofs.YtdhdifoenladpaaW.PrintLast

def above (v : Int) (l : List Int) : Nat := l.countP fun x => decide (x > v)
theorem above_known (v : Int) (hv : -9999 ≤ v) (l : List Int) : above v (known l) = above v l := by
  induction l with
  | nil => rfl
  | cons x xs ih =>
    rw [known_cons]
    unfold above at ih ⊢
    by_cases h : x = -9999
    · rw [if_pos h, ih, List.countP_cons, if_neg (by simp; omega)]; rfl
    · rw [if_neg h, List.countP_cons, List.countP_cons, ih]
theorem above_le (v : Int) (l : List Int) : above v l ≤ l.length := List.countP_le_length
theorem above_cons (v x : Int) (l : List Int) : above v (x :: l) = above v l + if x > v then 1 else 0 := by
  unfold above; rw [List.countP_cons]; simp

theorem spec_rank (l : List Int) (hs : seriesB l = true) (d : Nat) (hd : d < l.length) : ∀ (m i : Nat) (r : Int), l.length - i = m → i ≤ l.length → 1 ≤ r → r ≤ i + 1 →
    Ev (fun k => spec_RankOfDay.l0 k l (d : Int) r (i : Int)) (r + (above l[d] (l.drop i) : Int), ((known l).length : Int), true) := by
  have h60 := series_60 hs
  intro m
  induction m with
  | zero =>
    intro i r hm hi _ _
    refine Ev.step (fun k => by rw [spec_RankOfDay.l0]) ?_
    refine Ev.neg (by omega) (Ev.bind (l24SumAll l hs) (Ev.const ?_))
    rw [List.drop_of_length_le (by omega)]; simp [above]
  | succ m ih =>
    intro i r hm hi h1 h2
    have hlt : i < l.length := by omega
    refine Ev.step (fun k => by rw [spec_RankOfDay.l0]) ?_
    refine Ev.pos (by omega) (Ev.pos (by omega) (Ev.pos (by omega) (Ev.pos (by omega) ?_)))
    rw [rd_lt l i hlt, rd_lt l d hd, drop_cons' l i hlt, above_cons, w64 (x := (i : Int) + 1) (by omega) (by omega), w64 (x := r + 1) (by omega) (by omega), show (i : Int) + 1 = ((i + 1 : Nat) : Int) from by omega]
    refine Ev.cases (fun h => ?_) (fun h => ?_)
    · refine Ev.eq (ih (i + 1) (r + 1) (by omega) (by omega) (by omega) (by omega)) ?_
      rw [if_pos h]; congr 1; omega
    · refine Ev.eq (ih (i + 1) r (by omega) (by omega) (by omega) (by omega)) ?_
      rw [if_neg h]; rfl
theorem impl_rank (l : List Int) (hl : l.length ≤ 60) (d : Nat) (hd : d < l.length) (xs : List Int) (hx : xs.length ≤ 60) : ∀ (m i : Nat) (r : Int), xs.length - i = m → i ≤ xs.length → 1 ≤ r → r ≤ i + 1 →
    Ev (fun k => impl_RankOfDay.l0 k l (d : Int) r xs (xs.length : Int) (i : Int)) (r + (above l[d] (xs.drop i) : Int), ((known l).length : Int), true) := by
  intro m
  induction m with
  | zero =>
    intro i r hm hi _ _
    refine Ev.step (fun k => by rw [impl_RankOfDay.l0]) ?_
    refine Ev.neg (by omega) (Ev.bindc (known_f l (by omega)) (Ev.const ?_))
    rw [List.drop_of_length_le (by omega)]; simp [above]
  | succ m ih =>
    intro i r hm hi h1 h2
    have hlt : i < xs.length := by omega
    refine Ev.step (fun k => by rw [impl_RankOfDay.l0]) ?_
    refine Ev.pos (by omega) (Ev.pos (by omega) (Ev.pos (by omega) (Ev.pos (by omega) (Ev.pos (by omega) ?_))))
    rw [rd_lt xs i hlt, rd_lt l d hd, drop_cons' xs i hlt, above_cons, w64 (x := (i : Int) + 1) (by omega) (by omega), w64 (x := r + 1) (by omega) (by omega), show (i : Int) + 1 = ((i + 1 : Nat) : Int) from by omega]
    refine Ev.cases (fun h => ?_) (fun h => ?_)
    · refine Ev.eq (ih (i + 1) (r + 1) (by omega) (by omega) (by omega) (by omega)) ?_
      rw [if_pos h]; congr 1; omega
    · refine Ev.eq (ih (i + 1) r (by omega) (by omega) (by omega) (by omega)) ?_
      rw [if_neg h]; rfl

theorem rankOfDay (l : List Int) (hl : l.length ≤ 1048576) (a : Int) : ∃ r, Ev (fun k => spec_RankOfDay.f k l a) r ∧ Ev (fun k => impl_RankOfDay.f k l a) r := by
  unfold spec_RankOfDay.f impl_RankOfDay.f
  by_cases hv : seriesB l = true ∧ 0 ≤ a ∧ a < l.length
  · obtain ⟨hs, h0, hlt⟩ := hv
    have h60 := series_60 hs
    obtain ⟨d, rfl⟩ : ∃ d : Nat, a = d := ⟨a.toNat, by omega⟩
    have hd : d < l.length := by omega
    have hday := l24Day l hl (d : Int)
    have hyes := hasDay_yes l hs d hd
    by_cases hm : l[d] = -9999
    · refine ⟨(0, 0, false), ?_, ?_⟩
      · refine Ev.bind hday (Ev.pos (by rw [hs]; simp; omega) (Ev.pos (by omega) (Ev.pos (by omega) ?_)))
        rw [rd_lt l d hd]
        refine Ev.step (fun k => by rw [spec_RankOfDay.j0]) ?_
        exact Ev.pos (by simp [hm]) (Ev.now _)
      · exact Ev.bindc hyes (Ev.neg (by simp [hm]) (Ev.now _))
    · refine ⟨(1 + (above l[d] l : Int), ((known l).length : Int), true), ?_, ?_⟩
      · refine Ev.bind hday (Ev.pos (by rw [hs]; simp; omega) (Ev.pos (by omega) (Ev.pos (by omega) ?_)))
        rw [rd_lt l d hd]
        refine Ev.step (fun k => by rw [spec_RankOfDay.j0]) ?_
        refine Ev.neg (by simp [hm]) ?_
        exact spec_rank l hs d hd _ 0 1 rfl (by omega) (by omega) (by omega)
      · refine Ev.bindc hyes (Ev.pos (by simp [hm]) (Ev.bindc (known_f l hl) ?_))
        refine Ev.eq (impl_rank l h60.2 d hd (known l) (by have := known_le l; omega) _ 0 1 rfl (by omega) (by omega) (by omega)) ?_
        rw [List.drop_zero, above_known _ (by have := series_bd hs d hd; omega)]
  · refine ⟨(0, 0, false), ?_, ?_⟩
    · have hj : Ev (fun k => spec_RankOfDay.j0 k l a true) (0, 0, false) := by
        refine Ev.step (fun k => by rw [spec_RankOfDay.j0]) ?_
        exact Ev.pos rfl (Ev.now _)
      refine Ev.bind (l24Day l hl a) (Ev.neg ?_ hj)
      simp only [Bool.and_eq_true, decide_eq_true_eq]
      intro h; exact hv ⟨h.1, h.2.1, by omega⟩
    · exact Ev.bindc (hasDay_no l hl a hv) (Ev.neg (by simp) (Ev.now _))

theorem FnExactRankOfDay : laws_FnExactRankOfDay.Pure := by
  intro l0 a1 _ _ _ _
  apply Ev.rounds
  unfold laws_FnExactRankOfDay.f
  refine Ev.cases (fun _ => Ev.now _) (fun hl => ?_)
  have hl : l0.length ≤ 1048576 := by omega
  obtain ⟨r, hr1, hr2⟩ := rankOfDay l0 hl a1
  have t := toIntS l0 hl
  refine Ev.bind t (Ev.bind hr1 (Ev.bind t (Ev.bind hr2 ?_)))
  refine Ev.pos rfl (Ev.pos rfl ?_)
  refine Ev.step (fun k => by rw [laws_FnExactRankOfDay.j0]) ?_
  exact Ev.neg (by simp) (Ev.bind t (Ev.bind (eqIntS l0 l0 (by omega)) (Ev.pos (by simp) (Ev.now _))))
end Go.Proofs.Ytdhdifoenladpaa.Pure
