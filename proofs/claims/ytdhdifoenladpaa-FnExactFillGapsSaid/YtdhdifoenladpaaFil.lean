/- Filled gaps: the program's loops are the reference's; what they make of a series. -/
import Derived.Test.YtdhdifoenladpaaClm
import Derived.Test.YtdhdifoenladpaaPx26
import Derived.Test.YtdhdifoenladpaaPx27
import Derived.Test.YtdhdifoenladpaaPx14
namespace Go.Proofs.Ytdhdifoenladpaa.Pure
open Go.RowKit Go.Proofs.Ytdhdifoenladpaa.P Go.Proofs.YtdhdifoenladpaaW.PrintWords Go.Proofs.YtdhdifoenladpaaW.PrintLast

/-- a / b rounded to the nearest whole number, away from 0 in the middle. -/
def roundI (a b : Int) : Int := if a < 0 then -((-2 * a + b) / (2 * b)) else (2 * a + b) / (2 * b)
theorem round_f (a b : Int) (h1 : -1000000000000 ≤ a) (h2 : a ≤ 1000000000000) (h3 : 0 < b) (h4 : b ≤ 1000000000) : spec_l3Round.f a b = some (roundI a b) := by
  unfold spec_l3Round.f roundI
  rw [w64 (x := 2 * b) (by omega) (by omega)]
  by_cases h : a < 0
  · rw [if_pos h, if_neg (by omega), if_pos h, w64 (x := -2 * a) (by omega) (by omega), w64 (x := -2 * a + b) (by omega) (by omega)]
    rw [Int.tdiv_eq_ediv_of_nonneg (by omega)]
    have hq1 : 0 ≤ (-2 * a + b) / (2 * b) := Int.ediv_nonneg (by omega) (by omega)
    have hq2 : (-2 * a + b) / (2 * b) ≤ -2 * a + b := Int.ediv_le_self _ (by omega)
    rw [w64 (x := (-2 * a + b) / (2 * b)) (by omega) (by omega), w64 (by omega) (by omega)]
  · rw [if_neg h, if_neg (by omega), if_neg h, w64 (x := 2 * a) (by omega) (by omega), w64 (x := 2 * a + b) (by omega) (by omega)]
    rw [Int.tdiv_eq_ediv_of_nonneg (by omega)]
    have hq1 : 0 ≤ (2 * a + b) / (2 * b) := Int.ediv_nonneg (by omega) (by omega)
    have hq2 : (2 * a + b) / (2 * b) ≤ 2 * a + b := Int.ediv_le_self _ (by omega)
    rw [w64 (by omega) (by omega)]
theorem nearest_f (a b : Int) : impl_nearest.f a b = spec_l3Round.f a b := rfl
theorem round_bd (a b M : Int) (hb : 0 < b) (h1 : -(M * b) ≤ a) (h2 : a ≤ M * b) : -M ≤ roundI a b ∧ roundI a b ≤ M := by
  unfold roundI
  have hMb : (M + 1) * (2 * b) = 2 * (M * b) + 2 * b := by rw [Int.add_mul, Int.one_mul, Int.mul_left_comm]
  split
  · have h4 : (-2 * a + b) / (2 * b) < M + 1 := Int.ediv_lt_of_lt_mul (by omega) (by rw [hMb]; omega)
    have h5 : 0 ≤ (-2 * a + b) / (2 * b) := Int.ediv_nonneg (by omega) (by omega)
    omega
  · have h4 : (2 * a + b) / (2 * b) < M + 1 := Int.ediv_lt_of_lt_mul (by omega) (by rw [hMb]; omega)
    have h5 : 0 ≤ (2 * a + b) / (2 * b) := Int.ediv_nonneg (by omega) (by omega)
    omega

theorem fill_same (l : List Int) : ∀ k, (∀ (o : List Int) (t i : Int), impl_FillGaps.l0 k l o t l (l.length : Int) i = spec_FillGaps.l0 k l o t i) ∧
    (∀ (o : List Int) (t i g : Int), 0 ≤ i → i < l.length → impl_FillGaps.l1 k l o t i (rd l i) g l (l.length : Int) i = spec_FillGaps.l1 k l o t i g) := by
  intro k
  induction k with
  | zero => exact ⟨fun _ _ _ => rfl, fun _ _ _ _ _ _ => rfl⟩
  | succ k ih =>
    refine ⟨fun o t i => ?_, fun o t i g hi0 hi1 => ?_⟩
    · rw [impl_FillGaps.l0, spec_FillGaps.l0]
      by_cases h1 : i < (l.length : Int)
      · by_cases h2 : 0 ≤ i
        · simp only [if_pos h1, if_pos h2]
          rw [ih.1, ih.2 _ _ _ _ h2 h1]
        · simp only [if_pos h1, if_neg h2]
      · simp only [if_neg h1]
    · rw [impl_FillGaps.l1, spec_FillGaps.l1]
      by_cases h1 : t ≥ 0
      · rw [if_pos h1]
        by_cases h2 : g < i
        · rw [if_pos h2, if_pos h2, if_pos h1]
          by_cases h3 : t < (l.length : Int)
          · simp only [if_pos (show 0 ≤ t from h1), if_pos h3, if_pos hi0, if_pos hi1, nearest_f]
            congr 1
            funext x
            split <;> try rfl
            split <;> try rfl
            exact ih.2 _ _ _ _ hi0 hi1
          · simp only [if_pos (show 0 ≤ t from h1), if_neg h3]
        · rw [if_neg h2, if_neg h2, ih.1]
      · rw [if_neg h1]
        by_cases h2 : g < i
        · rw [if_pos h2, if_neg h1, ih.1]
        · rw [if_neg h2, ih.1]

/-- The values of l from the first to the last day with one are all there, the others all missing. -/
def Dense (l : List Int) : Prop := ∃ f m : Nat, f ≤ m ∧ m < l.length ∧ (∀ j, j < f → l.getD j 0 = -9999) ∧ (∀ j, f ≤ j → j ≤ m → l.getD j 0 ≠ -9999) ∧ (∀ j, m < j → j < l.length → l.getD j 0 = -9999)
def Filled (l o : List Int) : Prop := o.length = l.length ∧ (∀ j, j < l.length → l.getD j 0 ≠ -9999 → o.getD j 0 = l.getD j 0) ∧ (∀ j, j < l.length → cellB (o.getD j 0) = true) ∧ Dense o

theorem fill_dense (l : List Int) (hl : l.length ≤ 60) (f m : Nat) (hfm : f ≤ m) (hm : m < l.length) (h1 : ∀ j, j < f → l.getD j 0 = -9999) (h2 : ∀ j, f ≤ j → j ≤ m → l.getD j 0 ≠ -9999) (h3 : ∀ j, m < j → j < l.length → l.getD j 0 = -9999) :
    ∀ (d i : Nat) (t : Int), l.length - i = d → i ≤ l.length → (i ≤ f → t = -1) → (f < i → i ≤ m + 1 → t = (i : Int) - 1) → Ev (fun k => spec_FillGaps.l0 k l l t (i : Int)) (l, true) := by
  intro d
  induction d with
  | zero =>
    intro i t hd hi _ _
    refine Ev.step (fun k => by rw [spec_FillGaps.l0]) ?_
    exact Ev.neg (by omega) (Ev.now _)
  | succ d ih =>
    intro i t hd hi ht1 ht2
    have hlt : i < l.length := by omega
    refine Ev.step (fun k => by rw [spec_FillGaps.l0]) ?_
    refine Ev.pos (by omega) (Ev.pos (by omega) ?_)
    rw [rd_nat]
    by_cases hmis : l.getD i 0 = -9999
    · refine Ev.pos hmis ?_
      rw [w64 (by omega) (by omega), show (i : Int) + 1 = ((i + 1 : Nat) : Int) from by omega]
      refine ih (i + 1) t (by omega) (by omega) (fun h => ht1 (by omega)) (fun h h' => ?_)
      exact absurd hmis (h2 i (by omega) (by omega))
    · refine Ev.neg hmis ?_
      have hif : f ≤ i := by
        rcases Nat.lt_or_ge i f with h | h
        · exact absurd (h1 i h) hmis
        · exact h
      have him : i ≤ m := by
        rcases Nat.lt_or_ge m i with h | h
        · exact absurd (h3 i h hlt) hmis
        · exact h
      have nxt : Ev (fun k => spec_FillGaps.l0 k l l (i : Int) (wrap64 ((i : Int) + 1))) (l, true) := by
        rw [w64 (by omega) (by omega), show (i : Int) + 1 = ((i + 1 : Nat) : Int) from by omega]
        exact ih (i + 1) i (by omega) (by omega) (fun h => by omega) (fun _ _ => by omega)
      refine Ev.step (fun k => by rw [spec_FillGaps.l1]) ?_
      by_cases hif' : i = f
      · have ht := ht1 (by omega)
        rw [ht]
        exact Ev.cases (fun _ => Ev.neg (by omega) nxt) (fun _ => nxt)
      · have ht := ht2 (by omega) (by omega)
        refine Ev.neg ?_ nxt
        rw [ht, w64 (by omega) (by omega)]; omega

theorem getD_set (o : List Int) (g j : Nat) (v : Int) (hg : g < o.length) : (o.set g v).getD j 0 = if j = g then v else o.getD j 0 := by
  simp only [List.getD_eq_getElem?_getD]
  by_cases h : j = g
  · subst h; simp [hg]
  · rw [List.getElem?_set_ne (fun e => h e.symm), if_neg h]

theorem fill_some (l : List Int) (hs : ∀ j, j < l.length → cellB (l.getD j 0) = true) (hl : l.length ≤ 60) : ∀ (d i : Nat) (o : List Int) (f m : Nat), l.length - i = d → i ≤ l.length → o.length = l.length → f ≤ m → m < i → l.getD m 0 ≠ -9999 →
    (∀ j, j < f → l.getD j 0 = -9999) → (∀ j, f ≤ j → j ≤ m → o.getD j 0 ≠ -9999 ∧ cellB (o.getD j 0) = true) → (∀ j, j ≤ m → l.getD j 0 ≠ -9999 → o.getD j 0 = l.getD j 0) → (∀ j, j < f → o.getD j 0 = l.getD j 0) → (∀ j, m < j → j < l.length → o.getD j 0 = l.getD j 0) → (∀ j, m < j → j < i → l.getD j 0 = -9999) →
    ∃ r, Ev (fun k => spec_FillGaps.l0 k l o (m : Int) (i : Int)) (r, true) ∧ Filled l r := by
  intro d
  induction d with
  | zero =>
    intro i o f m hd hi ho hfm hmi hlm a1 a2 a3 a4 a5 a6
    refine ⟨o, ?_, ho, ?_, ?_, f, m, hfm, by omega, fun j hj => by rw [a4 j hj, a1 j hj], fun j h h' => (a2 j h h').1, fun j h h' => by rw [a5 j h (by omega), a6 j h (by omega)]⟩
    · refine Ev.step (fun k => by rw [spec_FillGaps.l0]) ?_
      exact Ev.neg (by omega) (Ev.now _)
    · intro j hj hne
      by_cases h : j ≤ m
      · exact a3 j h hne
      · exact a5 j (by omega) hj
    · intro j hj
      by_cases h : j ≤ m
      · by_cases h' : f ≤ j
        · exact (a2 j h' h).2
        · rw [a4 j (by omega)]; exact hs j hj
      · rw [a5 j (by omega) hj]; exact hs j hj
  | succ d ih =>
    intro i o f m hd hi ho hfm hmi hlm a1 a2 a3 a4 a5 a6
    have hlt : i < l.length := by omega
    by_cases hmis : l.getD i 0 = -9999
    · obtain ⟨r, hr, hF⟩ := ih (i + 1) o f m (by omega) (by omega) ho hfm (by omega) hlm a1 a2 a3 a4 a5 (fun j h h' => by
        by_cases e : j = i
        · rw [e]; exact hmis
        · exact a6 j h (by omega))
      refine ⟨r, ?_, hF⟩
      refine Ev.step (fun k => by rw [spec_FillGaps.l0]) ?_
      refine Ev.pos (by omega) (Ev.pos (by omega) ?_)
      rw [rd_nat]
      refine Ev.pos hmis ?_
      rw [w64 (by omega) (by omega), show (i : Int) + 1 = ((i + 1 : Nat) : Int) from by omega]
      exact hr
    · -- the gap from g on
      have inner : ∀ (e g : Nat) (o : List Int), i - g = e → m < g → g ≤ i → o.length = l.length → (∀ j, f ≤ j → j < g → o.getD j 0 ≠ -9999 ∧ cellB (o.getD j 0) = true) → (∀ j, j ≤ m → l.getD j 0 ≠ -9999 → o.getD j 0 = l.getD j 0) → (∀ j, j < f → o.getD j 0 = l.getD j 0) → (∀ j, g ≤ j → j < l.length → o.getD j 0 = l.getD j 0) →
          ∃ r, Ev (fun k => spec_FillGaps.l1 k l o (m : Int) (i : Int) (g : Int)) (r, true) ∧ Filled l r := by
        intro e
        induction e with
        | zero =>
          intro g o he hmg hgi ho b1 b2 b3 b4
          have hgi' : g = i := by omega
          subst hgi'
          obtain ⟨r, hr, hF⟩ := ih (g + 1) o f g (by omega) (by omega) ho (by omega) (by omega) hmis a1 (fun j h h' => by
              by_cases e : j = g
              · rw [e, b4 g (Nat.le_refl _) hlt]; exact ⟨hmis, hs g hlt⟩
              · exact b1 j h (by omega)) (fun j h hne => by
              by_cases e : j ≤ m
              · exact b2 j e hne
              · by_cases e' : j = g
                · rw [e', b4 g (Nat.le_refl _) hlt]
                · exact absurd (a6 j (by omega) (by omega)) hne) b3 (fun j h h' => b4 j (by omega) h') (fun j h h' => by omega)
          refine ⟨r, ?_, hF⟩
          refine Ev.step (fun k => by rw [spec_FillGaps.l1]) ?_
          refine Ev.neg (by omega) ?_
          rw [w64 (by omega) (by omega), show (g : Int) + 1 = ((g + 1 : Nat) : Int) from by omega]
          exact hr
        | succ e ihe =>
          intro g o he hmg hgi ho b1 b2 b3 b4
          have hc1 := cell_bd' (hs m (by omega)) hlm
          have hc2 := cell_bd' (hs i hlt) hmis
          -- the value on the line
          have hA1 : -(9000 * ((i : Int) - m)) ≤ l.getD m 0 * ((i : Int) - g) + l.getD i 0 * ((g : Int) - m) := by
            have p1 := Int.mul_le_mul_of_nonneg_right hc1.1 (show (0 : Int) ≤ (i : Int) - g by omega)
            have p2 := Int.mul_le_mul_of_nonneg_right hc2.1 (show (0 : Int) ≤ (g : Int) - m by omega)
            omega
          have hA2 : l.getD m 0 * ((i : Int) - g) + l.getD i 0 * ((g : Int) - m) ≤ 9000 * ((i : Int) - m) := by
            have p1 := Int.mul_le_mul_of_nonneg_right hc1.2 (show (0 : Int) ≤ (i : Int) - g by omega)
            have p2 := Int.mul_le_mul_of_nonneg_right hc2.2 (show (0 : Int) ≤ (g : Int) - m by omega)
            omega
          have q1 : -9000 * ((i : Int) - g) ≤ l.getD m 0 * ((i : Int) - g) := Int.mul_le_mul_of_nonneg_right hc1.1 (show (0 : Int) ≤ (i : Int) - g by omega)
          have q2 : l.getD m 0 * ((i : Int) - g) ≤ 9000 * ((i : Int) - g) := Int.mul_le_mul_of_nonneg_right hc1.2 (show (0 : Int) ≤ (i : Int) - g by omega)
          have q3 : -9000 * ((g : Int) - m) ≤ l.getD i 0 * ((g : Int) - m) := Int.mul_le_mul_of_nonneg_right hc2.1 (show (0 : Int) ≤ (g : Int) - m by omega)
          have q4 : l.getD i 0 * ((g : Int) - m) ≤ 9000 * ((g : Int) - m) := Int.mul_le_mul_of_nonneg_right hc2.2 (show (0 : Int) ≤ (g : Int) - m by omega)
          have hv := round_bd _ ((i : Int) - m) 9000 (by omega) hA1 hA2
          have hcell : cellB (roundI (l.getD m 0 * ((i : Int) - g) + l.getD i 0 * ((g : Int) - m)) ((i : Int) - m)) = true := by
            unfold cellB; simp only [Bool.or_eq_true, Bool.and_eq_true, decide_eq_true_eq]; right; exact hv
          have hrf := round_f (l.getD m 0 * ((i : Int) - g) + l.getD i 0 * ((g : Int) - m)) ((i : Int) - m) (by omega) (by omega) (by omega) (by omega)
          have hgo : g < o.length := by omega
          obtain ⟨r, hr, hF⟩ := ihe (g + 1) (o.set g (roundI (l.getD m 0 * ((i : Int) - g) + l.getD i 0 * ((g : Int) - m)) ((i : Int) - m))) (by omega) (by omega) (by omega) (by simpa using ho) (fun j h h' => by
              rw [getD_set _ _ _ _ hgo]
              split
              · exact ⟨by omega, hcell⟩
              · exact b1 j h (by omega)) (fun j h hne => by rw [getD_set _ _ _ _ hgo, if_neg (by omega)]; exact b2 j h hne) (fun j h => by rw [getD_set _ _ _ _ hgo, if_neg (by omega)]; exact b3 j h) (fun j h h' => by rw [getD_set _ _ _ _ hgo, if_neg (by omega)]; exact b4 j (by omega) h')
          refine ⟨r, ?_, hF⟩
          refine Ev.step (fun k => by rw [spec_FillGaps.l1]) ?_
          refine Ev.pos (by omega) (Ev.pos (by omega) (Ev.pos (by omega) (Ev.pos (by omega) (Ev.pos (by omega) (Ev.pos (by omega) ?_)))))
          rw [rd_nat, rd_nat, w64 (x := (i : Int) - g) (by omega) (by omega), w64 (x := (g : Int) - m) (by omega) (by omega), w64 (x := (i : Int) - m) (by omega) (by omega), w64 (x := l.getD m 0 * ((i : Int) - g)) (by omega) (by omega), w64 (x := l.getD i 0 * ((g : Int) - m)) (by omega) (by omega), w64 (x := l.getD m 0 * ((i : Int) - g) + l.getD i 0 * ((g : Int) - m)) (by omega) (by omega)]
          refine Ev.bindc hrf (Ev.pos (by omega) (Ev.pos (by omega) ?_))
          rw [w64 (by omega) (by omega), show (g : Int) + 1 = ((g + 1 : Nat) : Int) from by omega, Int.toNat_natCast]
          exact hr
      obtain ⟨r, hr, hF⟩ := inner _ (m + 1) o rfl (by omega) (by omega) ho (fun j h h' => a2 j h (by omega)) a3 a4 (fun j h h' => a5 j (by omega) h')
      refine ⟨r, ?_, hF⟩
      refine Ev.step (fun k => by rw [spec_FillGaps.l0]) ?_
      refine Ev.pos (by omega) (Ev.pos (by omega) ?_)
      rw [rd_nat]
      refine Ev.neg hmis ?_
      rw [w64 (by omega) (by omega), show (m : Int) + 1 = ((m + 1 : Nat) : Int) from by omega]
      exact hr

theorem fill_none (l : List Int) (hs : ∀ j, j < l.length → cellB (l.getD j 0) = true) (hl : l.length ≤ 60) : ∀ (d i : Nat), l.length - i = d → i ≤ l.length → (∀ j, j < i → l.getD j 0 = -9999) → (∃ j, i ≤ j ∧ j < l.length ∧ l.getD j 0 ≠ -9999) →
    ∃ r, Ev (fun k => spec_FillGaps.l0 k l l (-1) (i : Int)) (r, true) ∧ Filled l r := by
  intro d
  induction d with
  | zero => intro i hd hi _ ⟨j, h1, h2, _⟩; omega
  | succ d ih =>
    intro i hd hi a ⟨j0, j1, j2, j3⟩
    have hlt : i < l.length := by omega
    by_cases hmis : l.getD i 0 = -9999
    · obtain ⟨r, hr, hF⟩ := ih (i + 1) (by omega) (by omega) (fun j h => by
        by_cases e : j = i
        · rw [e]; exact hmis
        · exact a j (by omega)) ⟨j0, by
          by_cases e : j0 = i
          · rw [e] at j3; exact absurd hmis j3
          · omega, j2, j3⟩
      refine ⟨r, ?_, hF⟩
      refine Ev.step (fun k => by rw [spec_FillGaps.l0]) ?_
      refine Ev.pos (by omega) (Ev.pos (by omega) ?_)
      rw [rd_nat]
      refine Ev.pos hmis ?_
      rw [w64 (by omega) (by omega), show (i : Int) + 1 = ((i + 1 : Nat) : Int) from by omega]
      exact hr
    · obtain ⟨r, hr, hF⟩ := fill_some l hs hl _ (i + 1) l i i rfl (by omega) rfl (Nat.le_refl _) (by omega) hmis a (fun j h h' => by
          have : j = i := by omega
          rw [this]; exact ⟨hmis, hs i hlt⟩) (fun _ _ _ => rfl) (fun _ _ => rfl) (fun _ _ _ => rfl) (fun j h h' => by omega)
      have hr' : Ev (fun k => spec_FillGaps.l0 k l l (i : Int) (wrap64 ((i : Int) + 1))) (r, true) := by
        rw [w64 (by omega) (by omega), show (i : Int) + 1 = ((i + 1 : Nat) : Int) from by omega]
        exact hr
      refine ⟨r, ?_, hF⟩
      refine Ev.step (fun k => by rw [spec_FillGaps.l0]) ?_
      refine Ev.pos (by omega) (Ev.pos (by omega) ?_)
      rw [rd_nat]
      refine Ev.neg hmis ?_
      refine Ev.step (fun k => by rw [spec_FillGaps.l1]) ?_
      exact Ev.cases (fun _ => Ev.neg (by omega) hr') (fun _ => hr')

theorem fill_ev {l : List Int} {r : List Int × Bool} {t : Int} (h : Ev (fun k => spec_FillGaps.l0 k l l t 0) r) : Ev (fun k => impl_FillGaps.l0 k l l t l (l.length : Int) 0) r :=
  h.congr fun k => (fill_same l k).1 l t 0
theorem series_getD {l : List Int} (hs : seriesB l = true) (j : Nat) (hj : j < l.length) : cellB (l.getD j 0) = true := by
  rw [show l.getD j 0 = l[j] from by simp [hj]]; exact series_cell hs _ (List.getElem_mem hj)

/-- Filled gaps: both come to one, and what it is. -/
theorem fillGaps (l : List Int) (hl : l.length ≤ 1048576) : ∃ (r : List Int) (b : Bool), Ev (fun k => spec_FillGaps.f k l) (r, b) ∧ Ev (fun k => impl_FillGaps.f k l) (r, b) ∧ r.length ≤ 1048576 ∧
    ((b = false ∧ r = []) ∨ (b = true ∧ seriesB l = true ∧ Filled l r)) := by
  unfold spec_FillGaps.f impl_FillGaps.f
  by_cases hs : seriesB l = true
  · have h60 := series_60 hs
    have hv : impl_IsValidSeries.f l = some (seriesB l) := rfl
    by_cases hk : known l = []
    · refine ⟨[], false, ?_, ?_, by simp, .inl ⟨rfl, rfl⟩⟩
      · exact Ev.bind (l24Good l hl) (Ev.pos hs (Ev.bind (l24SumAll l hs) (Ev.pos (by simp [hk]) (Ev.now _))))
      · refine Ev.bindc hv (Ev.pos hs (Ev.bindc (known_f l hl) ?_))
        rw [hk]
        refine Ev.step (fun k => by rw [impl_FillGaps.j0]) ?_
        exact Ev.pos rfl (Ev.now _)
    · have hpos := List.length_pos_iff.2 hk
      obtain ⟨x, hx⟩ := List.exists_mem_of_ne_nil _ hk
      obtain ⟨hx1, hx2⟩ := mem_known.1 hx
      obtain ⟨j, hj, e⟩ := List.getElem_of_mem hx1
      obtain ⟨r, hr, hF⟩ := fill_none l (series_getD hs) h60.2 _ 0 rfl (by omega) (fun j h => by omega) ⟨j, by omega, hj, by rw [show l.getD j 0 = l[j] from by simp [hj], e]; exact hx2⟩
      refine ⟨r, true, ?_, ?_, by rw [hF.1]; omega, .inr ⟨rfl, hs, hF⟩⟩
      · refine Ev.bind (l24Good l hl) (Ev.pos hs (Ev.bind (l24SumAll l hs) (Ev.neg (by simp only; omega) (Ev.bindc (show spec_l1Own.f l = some l from ?_) hr))))
        unfold spec_l1Own.f
        simp only [Option.bind_some, List.length_nil, List.nil_append]
        rw [if_pos (by omega)]
      · refine Ev.bindc hv (Ev.pos hs (Ev.bindc (known_f l hl) ?_))
        refine Ev.step (fun k => by rw [impl_FillGaps.j0]) ?_
        refine Ev.neg (by simpa using hk) (Ev.bindc (show slices_Clone_int_int.f l = some l by unfold slices_Clone_int_int.f; rw [if_pos (by omega)]) (fill_ev hr))
  · refine ⟨[], false, Ev.bind (l24Good l hl) (Ev.neg hs (Ev.now _)), ?_, by simp, .inl ⟨rfl, rfl⟩⟩
    refine Ev.bindc (show impl_IsValidSeries.f l = some (seriesB l) from rfl) (Ev.neg hs ?_)
    refine Ev.step (fun k => by rw [impl_FillGaps.j0]) ?_
    exact Ev.pos rfl (Ev.now _)
end Go.Proofs.Ytdhdifoenladpaa.Pure
