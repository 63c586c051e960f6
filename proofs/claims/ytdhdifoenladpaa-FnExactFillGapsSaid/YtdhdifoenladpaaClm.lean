/- Sums over the days of a series, and whether a series has a value on a day. -/
import Derived.Test.YtdhdifoenladpaaCs
import Derived.Test.YtdhdifoenladpaaPx13
import Derived.Test.YtdhdifoenladpaaPx15
namespace Go.Proofs.Ytdhdifoenladpaa.Pure
open Go.RowKit Go.Proofs.Ytdhdifoenladpaa.P Go.Proofs.YtdhdifoenladpaaW.PrintWords Go.Proofs.YtdhdifoenladpaaW.PrintLast

theorem cell_bd {n : Int} (h : cellB n = true) : -9999 ≤ n ∧ n ≤ 9000 := by
  unfold cellB at h
  simp only [Bool.or_eq_true, beq_iff_eq, Bool.and_eq_true, decide_eq_true_eq] at h
  omega
theorem cell_bd' {n : Int} (h : cellB n = true) (h2 : n ≠ -9999) : -9000 ≤ n ∧ n ≤ 9000 := by
  unfold cellB at h
  simp only [Bool.or_eq_true, beq_iff_eq, Bool.and_eq_true, decide_eq_true_eq] at h
  omega
theorem series_cell {l : List Int} (h : seriesB l = true) (x : Int) (hx : x ∈ l) : cellB x = true := by
  unfold seriesB at h
  simp only [Bool.and_eq_true, List.all_eq_true] at h
  exact h.2 x hx
theorem series_bd {l : List Int} (h : seriesB l = true) (i : Nat) (hi : i < l.length) : -9999 ≤ l[i] ∧ l[i] ≤ 9000 :=
  cell_bd (series_cell h _ (List.getElem_mem hi))
theorem series_60 {l : List Int} (h : seriesB l = true) : 1 ≤ l.length ∧ l.length ≤ 60 := by
  unfold seriesB at h
  simp only [Bool.and_eq_true, decide_eq_true_eq] at h
  omega

theorem known_cons (x : Int) (xs : List Int) : known (x :: xs) = if x = -9999 then known xs else x :: known xs := by
  unfold known
  rw [List.filter_cons]
  by_cases h : x = -9999
  · simp [h]
  · simp [h]
theorem known_le (l : List Int) : (known l).length ≤ l.length := List.length_filter_le _ _
theorem known_f (l : List Int) (h : l.length ≤ 1048576) : impl_knownValues.f l = some (known l) := by
  unfold impl_knownValues.f; rw [if_pos (by omega)]
theorem mem_known {x : Int} {l : List Int} : x ∈ known l ↔ x ∈ l ∧ x ≠ -9999 := by
  unfold known; simp

theorem l24Sum_l0 (l : List Int) (hs : ∀ i (h : i < l.length), -10000 ≤ l[i] ∧ l[i] ≤ 10000) (hl : l.length ≤ 1048576) (te : Int) (T : Nat) (hT : T ≤ l.length) (hto : ∀ j : Nat, j < l.length → ((j : Int) ≤ te ↔ j < T)) (htl : te ≤ 4611686018427387904) :
    ∀ (d i : Nat) (s n : Int), T - i = d → i ≤ T → -(10000 * (i : Int)) ≤ s → s ≤ 10000 * (i : Int) → 0 ≤ n → n ≤ i →
    Ev (fun k => spec_l24Sum.l0 k l te s n (i : Int)) (s + (known ((l.take T).drop i)).sum, n + ((known ((l.take T).drop i)).length : Int)) := by
  intro d
  induction d with
  | zero =>
    intro i s n hd hi _ _ _ _
    have hiT : i = T := by omega
    subst hiT
    have hj : Ev (fun k => spec_l24Sum.j1 k l te s n (i : Int) false) (s + (known ((l.take i).drop i)).sum, n + ((known ((l.take i).drop i)).length : Int)) := by
      refine Ev.step (fun k => by rw [spec_l24Sum.j1]) ?_
      refine Ev.neg (by simp) (Ev.const ?_)
      rw [List.drop_of_length_le (by simp; omega)]; simp [known]
    refine Ev.step (fun k => by rw [spec_l24Sum.l0]) ?_
    refine Ev.cases (fun h => ?_) (fun _ => hj)
    have : ¬ i < l.length := fun h' => by have := (hto i h').1 h; omega
    rw [show decide ((i : Int) < (l.length : Int)) = false from decide_eq_false (by omega)]
    exact hj
  | succ d ih =>
    intro i s n hd hi h1 h2 h3 h4
    have hlt : i < l.length := by omega
    have hle := (hto i hlt).2 (by omega)
    have hb := hs i hlt
    refine Ev.step (fun k => by rw [spec_l24Sum.l0]) ?_
    refine Ev.pos hle ?_
    rw [show decide ((i : Int) < (l.length : Int)) = true from decide_eq_true (by omega)]
    refine Ev.step (fun k => by rw [spec_l24Sum.j1]) ?_
    refine Ev.pos rfl (Ev.pos (by omega) (Ev.pos (by omega) ?_))
    have hdr : (l.take T).drop i = l[i] :: (l.take T).drop (i + 1) := by
      rw [drop_cons' _ i (by simp; omega)]; simp
    rw [rd_lt l i hlt, hdr, known_cons, w64 (x := (i : Int) + 1) (by omega) (by omega), show (i : Int) + 1 = ((i + 1 : Nat) : Int) from by omega]
    refine Ev.cases (fun h => ?_) (fun h => ?_)
    · rw [if_pos h]
      exact ih (i + 1) s n (by omega) (by omega) (by omega) (by omega) (by omega) (by omega)
    · rw [if_neg h, w64 (x := s + l[i]) (by omega) (by omega), w64 (x := n + 1) (by omega) (by omega)]
      refine Ev.eq (ih (i + 1) (s + l[i]) (n + 1) (by omega) (by omega) (by omega) (by omega) (by omega) (by omega)) ?_
      rw [List.sum_cons, List.length_cons]
      congr 1
      · omega
      · omega
theorem series_bd' {l : List Int} (h : seriesB l = true) : ∀ i (hi : i < l.length), -10000 ≤ l[i] ∧ l[i] ≤ 10000 := fun i hi => by
  have := series_bd h i hi; omega
/-- The reference's sum over the days from..te. -/
theorem l24Sum (l : List Int) (hs : seriesB l = true) (i : Nat) (te : Int) (T : Nat) (hi : i ≤ T) (hT : T ≤ l.length) (hto : ∀ j : Nat, j < l.length → ((j : Int) ≤ te ↔ j < T)) (htl : te ≤ 4611686018427387904) :
    Ev (fun k => spec_l24Sum.f k l (i : Int) te) ((known ((l.take T).drop i)).sum, ((known ((l.take T).drop i)).length : Int)) := by
  have h60 := series_60 hs
  unfold spec_l24Sum.f
  exact Ev.eq (l24Sum_l0 l (series_bd' hs) (by omega) te T hT hto htl _ i 0 0 rfl hi (by omega) (by omega) (by omega) (by omega)) (by simp)
/-- .. over all days. -/
theorem l24SumAll (l : List Int) (hs : seriesB l = true) : Ev (fun k => spec_l24Sum.f k l 0 (wrap64 ((l.length : Int) - 1))) ((known l).sum, ((known l).length : Int)) := by
  have h60 := series_60 hs
  rw [w64 (by omega) (by omega)]
  have := l24Sum l hs 0 ((l.length : Int) - 1) l.length (by omega) (Nat.le_refl _) (fun j hj => by omega) (by omega)
  rw [List.take_length, List.drop_zero] at this
  exact this

theorem l24Day (l : List Int) (hl : l.length ≤ 1048576) (d : Int) : Ev (fun k => spec_l24Day.f k l d) (seriesB l && (decide (0 ≤ d) && decide (d ≤ (l.length : Int) - 1))) := by
  unfold spec_l24Day.f
  refine Ev.bind (l24Good l hl) (Ev.cases (fun h => ?_) (fun h => ?_))
  · have := series_60 h
    rw [w64 (by omega) (by omega)]
    refine Ev.bindc (l1In_f _ _ _) (Ev.const ?_)
    rw [h, Bool.true_and]
  · exact Ev.const (by rw [Bool.eq_false_iff.mpr h]; rfl)
theorem hasDay_yes (l : List Int) (hs : seriesB l = true) (d : Nat) (hd : d < l.length) : impl_hasDay.f l (d : Int) = some (l[d] != -9999) := by
  have h60 := series_60 hs
  unfold impl_hasDay.f
  rw [show impl_IsValidSeries.f l = some (seriesB l) from rfl]
  simp only [Option.bind_some]
  rw [if_pos hs, within_f, w64 (by omega) (by omega)]
  simp only [Option.bind_some]
  rw [if_pos (by simp only [Bool.and_eq_true, decide_eq_true_eq]; omega), if_pos (by omega), if_pos (by omega), rd_lt l d hd]
theorem hasDay_no (l : List Int) (hl : l.length ≤ 1048576) (d : Int) (h : ¬ (seriesB l = true ∧ 0 ≤ d ∧ d < l.length)) : impl_hasDay.f l d = some false := by
  unfold impl_hasDay.f
  rw [show impl_IsValidSeries.f l = some (seriesB l) from rfl]
  simp only [Option.bind_some]
  by_cases hs : seriesB l = true
  · have h60 := series_60 hs
    rw [if_pos hs, within_f, w64 (by omega) (by omega)]
    simp only [Option.bind_some]
    rw [if_neg (by simp only [Bool.and_eq_true, decide_eq_true_eq]; intro h2; exact h ⟨hs, h2.1, by omega⟩)]
  · rw [if_neg hs]
end Go.Proofs.Ytdhdifoenladpaa.Pure
