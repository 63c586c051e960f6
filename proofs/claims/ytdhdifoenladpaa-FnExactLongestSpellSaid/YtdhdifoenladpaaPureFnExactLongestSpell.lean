/- The program's LongestSpell returns what the reference's returns, for all arguments. Conditions: none beyond the given statement's. -/
import Derived.Test.YtdhdifoenladpaaCs
import Derived.Test.YtdhdifoenladpaaPx8
namespace Go.Proofs.Ytdhdifoenladpaa.Pure
open Go.RowKit Go.Proofs.Ytdhdifoenladpaa.P Go.Proofs.YtdhdifoenladpaaW.PrintWords Go.Proofs.YtdhdifoenladpaaW.PrintLast

/-- One day: the first day and the length of the longest spell so far, and where the present one began. -/
def stepS (th : Int) (s : Int × Int × Int) (d n : Int) : Int × Int × Int :=
  if n < th then (s.1, s.2.1, d + 1) else if d + 1 - s.2.2 > s.2.1 then (s.2.2, d + 1 - s.2.2, s.2.2) else s
def runS (th : Int) : List Int → Int → Int × Int × Int → Int × Int × Int
  | [], _, s => s
  | x :: xs, d, s => runS th xs (d + 1) (stepS th s d x)
def finS (s : Int × Int × Int) : Int × Int × Bool := if s.2.1 = 0 then (0, 0, false) else (s.1, s.1 + s.2.1 - 1, true)

theorem impl_spell (l : List Int) (hl : l.length ≤ 1048576) (th : Int) (hth : -9000 ≤ th) : ∀ (d i : Nat) (f L b : Int), l.length - i = d → i ≤ l.length → 0 ≤ f → f ≤ i → 0 ≤ L → L ≤ i → 0 ≤ b → b ≤ i →
    Ev (fun k => impl_LongestSpell.l0 k th f L b l (l.length : Int) (i : Int)) (finS (runS th (l.drop i) i (f, L, b))) := by
  intro d
  induction d with
  | zero =>
    intro i f L b hd hi _ _ _ _ _ _
    refine Ev.step (fun k => by rw [impl_LongestSpell.l0]) ?_
    rw [List.drop_of_length_le (by omega)]
    refine Ev.neg (by omega) ?_
    unfold runS finS
    refine Ev.cases (fun h => ?_) (fun h => ?_)
    · exact Ev.const (by simp [h])
    · exact Ev.const (by rw [w64 (x := f + L) (by omega) (by omega), w64 (by omega) (by omega)]; simp [h])
  | succ d ih =>
    intro i f L b hd hi h1 h2 h3 h4 h5 h6
    refine Ev.step (fun k => by rw [impl_LongestSpell.l0]) ?_
    refine Ev.pos (by omega) (Ev.pos (by omega) (Ev.pos (by omega) ?_))
    rw [rd_lt l i (by omega), drop_cons' l i (by omega)]
    have hb : Ev (fun k => impl_LongestSpell.j2 k th f L b (i : Int) l (l.length : Int) (i : Int) (decide (l[i] < th))) (finS (runS th (l[i] :: l.drop (i + 1)) i (f, L, b))) := by
      refine Ev.step (fun k => by rw [impl_LongestSpell.j2]) ?_
      simp only [runS, stepS]
      rw [w64 (x := (i : Int) + 1) (by omega) (by omega), show (i : Int) + 1 = ((i + 1 : Nat) : Int) from by omega, w64 (x := ((i + 1 : Nat) : Int) - b) (by omega) (by omega)]
      refine Ev.cases (fun h => ?_) (fun h => ?_)
      · have h : l[i] < th := by simpa using h
        rw [if_pos h]
        exact ih (i + 1) f L _ (by omega) (by omega) (by omega) (by omega) (by omega) (by omega) (by omega) (by omega)
      · have h : ¬ l[i] < th := by simpa using h
        rw [if_neg h]
        refine Ev.cases (fun h' => ?_) (fun h' => ?_)
        · rw [if_pos h']
          exact ih (i + 1) b _ b (by omega) (by omega) (by omega) (by omega) (by omega) (by omega) (by omega) (by omega)
        · rw [if_neg h']
          exact ih (i + 1) f L b (by omega) (by omega) (by omega) (by omega) (by omega) (by omega) (by omega) (by omega)
    refine Ev.cases (fun h => ?_) (fun h => hb)
    rw [show decide (l[i] < th) = true from decide_eq_true (by omega)] at hb
    exact hb

/-- The length of the spell that the reference has found. -/
def lenS (f t : Int) (found : Bool) : Int := if found = true then t - f + 1 else 0

theorem most_f (a b : Int) : spec_l1Most.f a b = some (if a > b then a else b) := by unfold spec_l1Most.f; split <;> rfl

theorem spec_spell (l : List Int) (hl : l.length ≤ 1048576) (th : Int) : ∀ (d i kk : Nat) (f t : Int) (found : Bool), 2 * (l.length - kk) + (if i < kk then 1 else 0) = d → i ≤ kk → kk ≤ l.length → i < l.length → 0 ≤ f → f ≤ t → t < i + 1 → (found = true → t < i) → (found = false → f = 0 ∧ t = 0) →
    Ev (fun k => spec_LongestSpell.l1 k l th f t found (i : Int) (kk : Int)) (finS (runS th (l.drop kk) kk (if (kk : Int) - i > lenS f t found then ((i : Int), (kk : Int) - i, (i : Int)) else (f, lenS f t found, (i : Int))))) := by
  intro d
  induction d using Nat.strongRecOn with
  | _ d ih =>
    intro i kk f t found hd hik hkk hil hf hft hti hfi hnf
    -- the outer loop, at a later day
    have outer : ∀ (j : Nat) (f' t' : Int) (found' : Bool), 2 * (l.length - j) < d → j ≤ l.length → 0 ≤ f' → f' ≤ t' → t' < j + 1 → (found' = true → t' < j) → (found' = false → f' = 0 ∧ t' = 0) →
        Ev (fun k => spec_LongestSpell.l0 k l th f' t' found' (j : Int)) (finS (runS th (l.drop j) j (f', lenS f' t' found', (j : Int)))) := by
      intro j f' t' found' hm hj g1 g2 g3 g4 g5
      refine Ev.step (fun k => by rw [spec_LongestSpell.l0]) ?_
      refine Ev.cases (fun h => ?_) (fun h => ?_)
      · have := ih (2 * (l.length - j)) hm j j f' t' found' (by rw [if_neg (by omega)]; omega) (by omega) hj (by omega) g1 g2 g3 g4 g5
        refine Ev.eq this ?_
        rw [if_neg (by unfold lenS; split <;> omega)]
      · refine Ev.const ?_
        rw [List.drop_of_length_le (by omega)]
        unfold runS finS lenS
        cases found' with
        | true => rw [if_pos rfl]; simp only; rw [if_neg (by omega)]; congr 2; simp; omega
        | false => simp only [Bool.false_eq_true, if_false, if_true]; rw [(g5 rfl).1, (g5 rfl).2]
    refine Ev.step (fun k => by rw [spec_LongestSpell.l1]) ?_
    -- what happens when the run ends at kk
    have ends : (kk < l.length → l[kk]! < th) → Ev (fun k => (if (kk : Int) > (i : Int) then (if found = true then (if (wrap64 ((wrap64 ((kk : Int) - 1)) - (i : Int))) > (wrap64 (t - f)) then ((spec_l1Most.f (i : Int) (wrap64 ((kk : Int) - 1))).bind fun t130 => (spec_LongestSpell.l0 k l th (i : Int) (wrap64 ((kk : Int) - 1)) true (wrap64 (t130 + 1)))) else ((spec_l1Most.f (i : Int) (wrap64 ((kk : Int) - 1))).bind fun t131 => (spec_LongestSpell.l0 k l th f t found (wrap64 (t131 + 1))))) else ((spec_l1Most.f (i : Int) (wrap64 ((kk : Int) - 1))).bind fun t132 => (spec_LongestSpell.l0 k l th (i : Int) (wrap64 ((kk : Int) - 1)) true (wrap64 (t132 + 1))))) else ((spec_l1Most.f (i : Int) (wrap64 ((kk : Int) - 1))).bind fun t133 => (spec_LongestSpell.l0 k l th f t found (wrap64 (t133 + 1))))))
        (finS (runS th (l.drop kk) kk (if (kk : Int) - i > lenS f t found then ((i : Int), (kk : Int) - i, (i : Int)) else (f, lenS f t found, (i : Int))))) := by
      intro hbad
      -- the day at kk is bad, so where the present spell began does not matter
      have free : ∀ (a b c c' : Int), runS th (l.drop kk) kk (a, b, c) = runS th (l.drop kk) kk (a, b, c') ∨ l.length ≤ kk := by
        intro a b c c'
        by_cases h : kk < l.length
        · left
          rw [drop_cons' l kk h]
          have hb := hbad h
          rw [getElem!_pos l kk h] at hb
          simp only [runS, stepS, if_pos hb]
        · right; omega
      have fin_free : ∀ (a b c c' : Int), finS (runS th (l.drop kk) kk (a, b, c)) = finS (runS th (l.drop kk) kk (a, b, c')) := by
        intro a b c c'
        rcases free a b c c' with h | h
        · rw [h]
        · rw [List.drop_of_length_le h]; rfl
      rw [w64 (x := (kk : Int) - 1) (by omega) (by omega), w64 (x := (kk : Int) - 1 - i) (by omega) (by omega), w64 (x := t - f) (by omega) (by omega)]
      refine Ev.cases (fun h => ?_) (fun h => ?_)
      · have hm : (if (i : Int) > (kk : Int) - 1 then (i : Int) else (kk : Int) - 1) = (kk : Int) - 1 := by split <;> omega
        have hd' : 2 * (l.length - kk) < d := by rw [if_pos (by omega)] at hd; omega
        cases found with
        | true =>
          refine Ev.pos rfl ?_
          have hlen : lenS f t true = t - f + 1 := rfl
          refine Ev.cases (fun h' => ?_) (fun h' => ?_)
          · refine Ev.bindc (most_f _ _) ?_
            rw [hm, Int.sub_add_cancel, w64 (by omega) (by omega)]
            refine Ev.eq (outer kk i ((kk : Int) - 1) true hd' (by omega) (by omega) (by omega) (by omega) (fun _ => by omega) (fun h => by cases h)) ?_
            rw [if_pos (by rw [hlen]; omega), show lenS (i : Int) ((kk : Int) - 1) true = (kk : Int) - i from by unfold lenS; rw [if_pos rfl]; omega]
            exact fin_free _ _ _ _
          · refine Ev.bindc (most_f _ _) ?_
            rw [hm, Int.sub_add_cancel, w64 (by omega) (by omega)]
            refine Ev.eq (outer kk f t true hd' (by omega) (by omega) (by omega) (by omega) (fun _ => by have := hfi rfl; omega) (fun h => by cases h)) ?_
            rw [if_neg (by rw [hlen]; omega)]
            exact fin_free _ _ _ _
        | false =>
          refine Ev.neg (by simp) ?_
          refine Ev.bindc (most_f _ _) ?_
          rw [hm, Int.sub_add_cancel, w64 (by omega) (by omega)]
          refine Ev.eq (outer kk i ((kk : Int) - 1) true hd' (by omega) (by omega) (by omega) (by omega) (fun _ => by omega) (fun h => by cases h)) ?_
          rw [if_pos (by unfold lenS; simp; omega), show lenS (i : Int) ((kk : Int) - 1) true = (kk : Int) - i from by unfold lenS; rw [if_pos rfl]; omega]
          exact fin_free _ _ _ _
      · have hk : kk = i := by omega
        subst hk
        refine Ev.bindc (most_f _ _) ?_
        rw [if_pos (by omega), w64 (by omega) (by omega), show (kk : Int) + 1 = ((kk + 1 : Nat) : Int) from by omega]
        have hd' : 2 * (l.length - (kk + 1)) < d := by rw [if_neg (by omega)] at hd; omega
        refine Ev.eq (outer (kk + 1) f t found hd' (by omega) (by omega) (by omega) (by omega) (fun h => by have := hfi h; omega) hnf) ?_
        have hb := hbad hil
        rw [getElem!_pos l kk hil] at hb
        rw [if_neg (by unfold lenS; split <;> omega), drop_cons' l kk hil]
        simp only [runS, stepS, if_pos hb]
        rfl
    refine Ev.cases (fun h => ?_) (fun h => ends (fun h' => by omega))
    refine Ev.pos (by omega) ?_
    have hlt : kk < l.length := by omega
    rw [rd_lt l kk hlt]
    refine Ev.cases (fun h' => ?_) (fun h' => ends (fun _ => by rw [getElem!_pos l kk hlt]; omega))
    rw [w64 (by omega) (by omega), show (kk : Int) + 1 = ((kk + 1 : Nat) : Int) from by omega]
    have hd' : 2 * (l.length - (kk + 1)) + (if i < kk + 1 then 1 else 0) < d := by rw [if_pos (by omega)]; split at hd <;> omega
    refine Ev.eq (ih _ hd' i (kk + 1) f t found rfl (by omega) (by omega) hil hf hft hti hfi hnf) ?_
    have e0 : ((kk + 1 : Nat) : Int) = (kk : Int) + 1 := by omega
    have hge : ¬ l[kk] < th := by omega
    rw [e0, drop_cons' l kk hlt]
    by_cases c1 : (kk : Int) - i > lenS f t found
    · rw [if_pos c1, if_pos (by omega)]
      simp only [runS, stepS, if_neg hge]
      rw [if_pos (by omega)]
    · rw [if_neg c1]
      simp only [runS, stepS, if_neg hge]

theorem FnExactLongestSpell : laws_FnExactLongestSpell.Pure := by
  intro l0 a1 _ _ _ _
  apply Ev.rounds
  unfold laws_FnExactLongestSpell.f
  refine Ev.cases (fun _ => Ev.now _) (fun hl => ?_)
  have hl : l0.length ≤ 1048576 := by omega
  obtain ⟨r, hr1, hr2⟩ : ∃ r, Ev (fun k => spec_LongestSpell.f k l0 a1) r ∧ Ev (fun k => impl_LongestSpell.f k l0 a1) r := by
    unfold spec_LongestSpell.f impl_LongestSpell.f
    by_cases hs : seriesB l0 = true
    · by_cases ht : -9000 ≤ a1 ∧ a1 ≤ 9000
      · have hlen : 0 < l0.length := by
          unfold seriesB at hs; simp only [Bool.and_eq_true, decide_eq_true_eq] at hs; omega
        refine ⟨finS (runS a1 (l0.drop 0) 0 (0, 0, 0)), ?_, ?_⟩
        · refine Ev.bind (l24Good l0 hl) (Ev.pos hs (Ev.bindc (threshold_f a1) ?_))
          refine Ev.step (fun k => by rw [spec_LongestSpell.j0]) (Ev.neg (by simp [ht.1, ht.2]) ?_)
          refine Ev.step (fun k => by rw [spec_LongestSpell.l0]) (Ev.pos (by omega) ?_)
          refine Ev.eq (spec_spell l0 hl a1 _ 0 0 0 0 false rfl (by omega) (by omega) hlen (by omega) (by omega) (by omega) (fun h => by cases h) (fun _ => ⟨rfl, rfl⟩)) ?_
          rfl
        · refine Ev.bindc (show impl_IsValidSeries.f l0 = some (seriesB l0) from rfl) (Ev.pos hs (Ev.bindc (within_f a1 _ _) ?_))
          refine Ev.step (fun k => by rw [impl_LongestSpell.j0]) (Ev.neg (by simp [ht.1, ht.2]) ?_)
          exact impl_spell l0 hl a1 ht.1 _ 0 0 0 0 rfl (by omega) (by omega) (by omega) (by omega) (by omega) (by omega) (by omega)
      · have hb : (!(decide (-9000 ≤ a1) && decide (a1 ≤ 9000))) = true := by
          simp only [Bool.not_eq_true', Bool.and_eq_false_iff, decide_eq_false_iff_not]; omega
        refine ⟨(0, 0, false), ?_, ?_⟩
        · refine Ev.bind (l24Good l0 hl) (Ev.pos hs (Ev.bindc (threshold_f a1) ?_))
          exact Ev.step (fun k => by rw [spec_LongestSpell.j0]) (Ev.pos hb (Ev.now _))
        · refine Ev.bindc (show impl_IsValidSeries.f l0 = some (seriesB l0) from rfl) (Ev.pos hs (Ev.bindc (within_f a1 _ _) ?_))
          exact Ev.step (fun k => by rw [impl_LongestSpell.j0]) (Ev.pos hb (Ev.now _))
    · refine ⟨(0, 0, false), ?_, ?_⟩
      · refine Ev.bind (l24Good l0 hl) (Ev.neg hs ?_)
        exact Ev.step (fun k => by rw [spec_LongestSpell.j0]) (Ev.pos rfl (Ev.now _))
      · refine Ev.bindc (show impl_IsValidSeries.f l0 = some (seriesB l0) from rfl) (Ev.neg hs ?_)
        exact Ev.step (fun k => by rw [impl_LongestSpell.j0]) (Ev.pos rfl (Ev.now _))
  refine Ev.bind (toIntS l0 hl) (Ev.bind hr1 (Ev.bind (toIntS l0 hl) (Ev.bind hr2 ?_)))
  refine Ev.pos rfl (Ev.pos rfl ?_)
  refine Ev.step (fun k => by rw [laws_FnExactLongestSpell.j0]) (Ev.neg (by simp) ?_)
  refine Ev.bind (toIntS l0 hl) (Ev.bind (eqIntS l0 l0 (by omega)) ?_)
  exact Ev.pos (by simp) (Ev.now _)
end Go.Proofs.Ytdhdifoenladpaa.Pure
