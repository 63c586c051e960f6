/- Means and anomalies: the reference's and the program's come to one. -/
import Derived.Test.YtdhdifoenladpaaClm
import Derived.Test.YtdhdifoenladpaaFr
import Derived.Test.YtdhdifoenladpaaPx29
import Derived.Test.YtdhdifoenladpaaPx30
import Derived.Test.YtdhdifoenladpaaPx32
namespace Go.Proofs.Ytdhdifoenladpaa.Pure
open Go.RowKit Go.Proofs.Ytdhdifoenladpaa.P Go.Proofs.YtdhdifoenladpaaW.PrintWords Go.Proofs.YtdhdifoenladpaaW.PrintLast

theorem known_bd {l : List Int} (hs : seriesB l = true) (xs : List Int) (hx : ∀ x ∈ xs, x ∈ l) : ∀ x ∈ known xs, -9000 ≤ x ∧ x ≤ 9000 := by
  intro x h
  obtain ⟨h1, h2⟩ := mem_known.1 h
  exact cell_bd' (series_cell hs x (hx x h1)) h2
theorem known_sum_bd {l : List Int} (hs : seriesB l = true) (xs : List Int) (hx : ∀ x ∈ xs, x ∈ l) (hl : xs.length ≤ 60) : -540000 ≤ (known xs).sum ∧ (known xs).sum ≤ 540000 := by
  have h := sum_bd (known xs) 9000 (known_bd hs xs hx)
  have h2 := known_le xs
  omega

/-- The mean of the values of some days, as a fraction. -/
def meanF (xs : List Int) : Int × Int × Bool := if known xs = [] then (0, 0, false) else ((lowest (known xs).sum (known xs).length).1, (lowest (known xs).sum (known xs).length).2, true)

theorem seriesMean (l : List Int) (hl : l.length ≤ 1048576) (a b : Int) : ∃ r, Ev (fun k => spec_SeriesMean.f k l a b) r ∧ Ev (fun k => impl_SeriesMean.f k l a b) r ∧
    ((r = (0, 0, false) ∧ ¬ (seriesB l = true ∧ 0 ≤ a ∧ a ≤ b ∧ b < l.length)) ∨ (seriesB l = true ∧ 0 ≤ a ∧ a ≤ b ∧ b < l.length ∧ r = meanF ((l.take (b.toNat + 1)).drop a.toNat))) := by
  unfold spec_SeriesMean.f impl_SeriesMean.f
  have hsj : Ev (fun k => spec_SeriesMean.j0 k l a b true) (0, 0, false) := by
    refine Ev.step (fun k => by rw [spec_SeriesMean.j0]) ?_
    exact Ev.pos rfl (Ev.now _)
  have hij : Ev (fun k => impl_SeriesMean.j0 k l a b true) (0, 0, false) := by
    refine Ev.step (fun k => by rw [impl_SeriesMean.j0]) ?_
    exact Ev.pos rfl (Ev.now _)
  have hdA := l24Day l hl a
  have hdB := l24Day l hl b
  by_cases hs : seriesB l = true
  · have h60 := series_60 hs
    have hw : wrap64 ((l.length : Int) - 1) = (l.length : Int) - 1 := w64 (by omega) (by omega)
    rw [hw]
    by_cases hA : 0 ≤ a ∧ a < l.length
    · by_cases hB : a ≤ b ∧ b < l.length
      · obtain ⟨i, rfl⟩ : ∃ i : Nat, a = i := ⟨a.toNat, by omega⟩
        obtain ⟨j, rfl⟩ : ∃ j : Nat, b = j := ⟨b.toNat, by omega⟩
        have hsub : ∀ x ∈ (l.take (j + 1)).drop i, x ∈ l := fun x hx => List.mem_of_mem_take (List.mem_of_mem_drop hx)
        have hlen : ((l.take (j + 1)).drop i).length ≤ 60 := by simp; omega
        have hsum := known_sum_bd hs _ hsub hlen
        have hkl := known_le ((l.take (j + 1)).drop i)
        refine ⟨meanF ((l.take (j + 1)).drop i), ?_, ?_, .inr ⟨hs, by omega, hB.1, by omega, rfl⟩⟩
        · refine Ev.bind hdA (Ev.pos (by rw [hs]; simp; omega) (Ev.bind hdB (Ev.pos (by rw [hs]; simp; omega) ?_)))
          refine Ev.step (fun k => by rw [spec_SeriesMean.j0]) ?_
          refine Ev.neg (by simp; omega) (Ev.bind (l24Sum l hs i (j : Int) (j + 1) (by omega) (by omega) (fun m hm => by omega) (by omega)) ?_)
          unfold meanF
          by_cases hk : known ((l.take (j + 1)).drop i) = []
          · rw [if_pos hk, hk]
            exact Ev.pos rfl (Ev.now _)
          · rw [if_neg hk]
            have := List.length_pos_iff.2 hk
            exact Ev.neg (by simp only; omega) (Ev.bind (reduce_ev _ _ (by omega) (by omega) (by omega) (by omega)) (Ev.now _))
        · refine Ev.bindc (show impl_IsValidSeries.f l = some (seriesB l) from rfl) (Ev.pos hs (Ev.bindc (within_f _ _ _) (Ev.pos (by simp; omega) (Ev.bindc (within_f _ _ _) ?_))))
          refine Ev.step (fun k => by rw [impl_SeriesMean.j0]) ?_
          refine Ev.neg (by simp; omega) (Ev.pos (by omega) ?_)
          rw [w64 (x := (j : Int) + 1) (by omega) (by omega)]
          refine Ev.pos (by omega) (Ev.pos (by omega) ?_)
          rw [show ((j : Int) + 1).toNat = j + 1 from by omega, Int.toNat_natCast]
          refine Ev.bindc (known_f _ (by omega)) (Ev.bind (sumOf _ (by omega) (fun x hx => by have := known_bd hs _ hsub x hx; omega)) ?_)
          unfold meanF
          by_cases hk : known ((l.take (j + 1)).drop i) = []
          · rw [if_pos hk, hk]
            exact Ev.bind (fraction_zero _) (Ev.now _)
          · rw [if_neg hk]
            have := List.length_pos_iff.2 hk
            exact Ev.bind (fraction_ev _ _ (by omega) (by omega) (by omega) (by omega)) (Ev.now _)
      · refine ⟨(0, 0, false), ?_, ?_, .inl ⟨rfl, fun h => hB ⟨h.2.2.1, h.2.2.2⟩⟩⟩
        · refine Ev.bind hdA (Ev.pos (by rw [hs]; simp; omega) (Ev.bind hdB (Ev.cases (fun h => ?_) (fun _ => hsj))))
          rw [hs, Bool.true_and] at h
          simp only [Bool.and_eq_true, decide_eq_true_eq] at h
          rw [show decide (a > b) = true from decide_eq_true (by omega)]
          exact hsj
        · refine Ev.bindc (show impl_IsValidSeries.f l = some (seriesB l) from rfl) (Ev.pos hs (Ev.bindc (within_f _ _ _) (Ev.pos (by simp; omega) (Ev.bindc (within_f _ _ _) ?_))))
          rw [show (!(decide (a ≤ b) && decide (b ≤ (l.length : Int) - 1))) = true from by
            simp only [Bool.not_eq_true', Bool.and_eq_false_iff, decide_eq_false_iff_not]; omega]
          exact hij
    · have hA' : ¬ (decide (0 ≤ a) && decide (a ≤ (l.length : Int) - 1)) = true := by
        simp only [Bool.and_eq_true, decide_eq_true_eq]; omega
      refine ⟨(0, 0, false), ?_, ?_, .inl ⟨rfl, fun h => hA ⟨h.2.1, by omega⟩⟩⟩
      · exact Ev.bind hdA (Ev.neg (by rw [hs, Bool.true_and]; exact hA') hsj)
      · exact Ev.bindc (show impl_IsValidSeries.f l = some (seriesB l) from rfl) (Ev.pos hs (Ev.bindc (within_f _ _ _) (Ev.neg hA' hij)))
  · refine ⟨(0, 0, false), Ev.bind hdA (Ev.neg (by rw [Bool.eq_false_iff.mpr hs]; simp) hsj), ?_, .inl ⟨rfl, fun h => hs h.1⟩⟩
    exact Ev.bindc (show impl_IsValidSeries.f l = some (seriesB l) from rfl) (Ev.neg hs hij)

/-- A day's value minus the mean, as a fraction. -/
def anomF (l : List Int) (v : Int) : Int × Int × Bool := ((lowest (v * (known l).length - (known l).sum) (known l).length).1, (lowest (v * (known l).length - (known l).sum) (known l).length).2, true)

theorem anomalyOf (l : List Int) (hl : l.length ≤ 1048576) (a : Int) : ∃ r, Ev (fun k => spec_AnomalyOf.f k l a) r ∧ Ev (fun k => impl_AnomalyOf.f k l a) r ∧
    ((r = (0, 0, false)) ∨ ∃ d : Nat, ∃ hd : d < l.length, seriesB l = true ∧ a = d ∧ l[d] ≠ -9999 ∧ r = anomF l l[d]) ∧ (seriesB l = true → ∀ d : Nat, ∀ hd : d < l.length, a = d → l[d] ≠ -9999 → r = anomF l l[d]) := by
  unfold spec_AnomalyOf.f impl_AnomalyOf.f
  have hsj : Ev (fun k => spec_AnomalyOf.j0 k l a true) (0, 0, false) := by
    refine Ev.step (fun k => by rw [spec_AnomalyOf.j0]) ?_
    exact Ev.pos rfl (Ev.now _)
  have hdA := l24Day l hl a
  by_cases hv : seriesB l = true ∧ 0 ≤ a ∧ a < l.length
  · obtain ⟨hs, h0, hlt⟩ := hv
    have h60 := series_60 hs
    obtain ⟨d, rfl⟩ : ∃ d : Nat, a = d := ⟨a.toNat, by omega⟩
    have hd : d < l.length := by omega
    have hyes := hasDay_yes l hs d hd
    by_cases hm : l[d] = -9999
    · refine ⟨(0, 0, false), ?_, ?_, .inl rfl, fun _ d' hd' e hne => ?_⟩
      · refine Ev.bind hdA (Ev.pos (by rw [hs]; simp; omega) (Ev.pos (by omega) (Ev.pos (by omega) ?_)))
        rw [rd_lt l d hd, hm]
        exact hsj
      · exact Ev.bindc hyes (Ev.neg (by simp [hm]) (Ev.now _))
      · have : d' = d := by omega
        subst this
        exact absurd hm hne
    · have hmem : l[d] ∈ known l := mem_known.2 ⟨List.getElem_mem hd, hm⟩
      have hkpos := List.length_pos_of_mem hmem
      have hkl := known_le l
      have hsum := known_sum_bd hs l (fun _ h => h) h60.2
      have hb := cell_bd' (series_cell hs _ (List.getElem_mem hd)) hm
      have hp : -540000 ≤ l[d] * ((known l).length : Int) ∧ l[d] * ((known l).length : Int) ≤ 540000 := by
        have h1 : (known l).length ≤ 60 := by omega
        generalize (known l).length = n at h1
        generalize l[d] = v at hb
        constructor
        · have := Int.mul_le_mul_of_nonneg_right hb.1 (Int.natCast_nonneg n); omega
        · have := Int.mul_le_mul_of_nonneg_right hb.2 (Int.natCast_nonneg n); omega
      refine ⟨anomF l l[d], ?_, ?_, .inr ⟨d, hd, hs, rfl, hm, rfl⟩, fun _ d' hd' e _ => by
        have : d' = d := by omega
        subst this; rfl⟩
      · refine Ev.bind hdA (Ev.pos (by rw [hs]; simp; omega) (Ev.pos (by omega) (Ev.pos (by omega) ?_)))
        rw [rd_lt l d hd, show (l[d] == -9999) = false from by simpa using hm]
        refine Ev.step (fun k => by rw [spec_AnomalyOf.j0]) ?_
        refine Ev.neg (by simp) (Ev.bind (l24SumAll l hs) (Ev.pos (by omega) (Ev.pos (by omega) ?_)))
        rw [rd_lt l d hd, w64 (x := l[d] * ((known l).length : Int)) (by omega) (by omega), w64 (by simp only; omega) (by simp only; omega)]
        exact Ev.bind (reduce_ev _ _ (by simp only; omega) (by simp only; omega) (by simp only; omega) (by simp only; omega)) (Ev.now _)
      · refine Ev.bindc hyes (Ev.pos (by simpa using hm) (Ev.bindc (known_f l hl) (Ev.pos (by omega) (Ev.pos (by omega) ?_))))
        refine Ev.bind (sumOf _ (by omega) (fun x hx => by have := known_bd hs l (fun _ h => h) x hx; omega)) ?_
        rw [rd_lt l d hd, w64 (x := l[d] * ((known l).length : Int)) (by omega) (by omega), w64 (by omega) (by omega)]
        exact Ev.bind (fraction_ev _ _ (by omega) (by omega) (by omega) (by omega)) (Ev.now _)
  · refine ⟨(0, 0, false), ?_, ?_, .inl rfl, fun hs d hd e _ => absurd ⟨hs, by omega, by omega⟩ hv⟩
    · refine Ev.bind hdA (Ev.neg ?_ hsj)
      simp only [Bool.and_eq_true, decide_eq_true_eq]
      intro h; exact hv ⟨h.1, h.2.1, by omega⟩
    · exact Ev.bindc (hasDay_no l hl a hv) (Ev.neg (by simp) (Ev.now _))
end Go.Proofs.Ytdhdifoenladpaa.Pure
