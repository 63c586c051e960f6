/- The highest and the lowest day of a series: the reference's scan and the program's Max, Min and Index come to the same. -/
import Derived.Test.YtdhdifoenladpaaClm
import Derived.Test.YtdhdifoenladpaaPx18
import Derived.Test.YtdhdifoenladpaaPx20
import Derived.Test.YtdhdifoenladpaaPx22
import Derived.Test.YtdhdifoenladpaaPx24
namespace Go.Proofs.Ytdhdifoenladpaa.Pure
open Go.RowKit Go.Proofs.Ytdhdifoenladpaa.P Go.Proofs.YtdhdifoenladpaaW.PrintWords Go.Proofs.YtdhdifoenladpaaW.PrintLast

theorem index_l0 (l : List Int) (hl : l.length ≤ 1048576) (v : Int) (b : Nat) (hb : b < l.length) (he : l[b] = v) (hf : ∀ j (h : j < b), l[j] ≠ v) : ∀ (d i : Nat), b - i = d → i ≤ b →
    Ev (fun k => slices_Index_int_int.l0 k l v (l.length : Int) (i : Int)) (b : Int) := by
  intro d
  induction d with
  | zero =>
    intro i hd hi
    have hib : i = b := by omega
    subst hib
    refine Ev.step (fun k => by rw [slices_Index_int_int.l0]) ?_
    refine Ev.pos (by omega) (Ev.pos (by omega) (Ev.pos (by omega) ?_))
    rw [rd_lt l i hb]
    exact Ev.pos he.symm (Ev.now _)
  | succ d ih =>
    intro i hd hi
    refine Ev.step (fun k => by rw [slices_Index_int_int.l0]) ?_
    refine Ev.pos (by omega) (Ev.pos (by omega) (Ev.pos (by omega) ?_))
    rw [rd_lt l i (by omega)]
    refine Ev.neg (fun h => hf i (by omega) h.symm) ?_
    rw [w64 (by omega) (by omega), show (i : Int) + 1 = ((i + 1 : Nat) : Int) from by omega]
    exact ih (i + 1) (by omega) (by omega)
theorem index_first (l : List Int) (hl : l.length ≤ 1048576) (v : Int) (b : Nat) (hb : b < l.length) (he : l[b] = v) (hf : ∀ j (h : j < b), l[j] ≠ v) : Ev (fun k => slices_Index_int_int.f k l v) (b : Int) := by
  unfold slices_Index_int_int.f
  exact index_l0 l hl v b hb he hf _ 0 rfl (by omega)

theorem foldMax_mem (xs : List Int) : ∀ a : Int, (xs.foldl (fun a b => if a < b then b else a) a = a ∨ xs.foldl (fun a b => if a < b then b else a) a ∈ xs) ∧ a ≤ xs.foldl (fun a b => if a < b then b else a) a ∧ ∀ x ∈ xs, x ≤ xs.foldl (fun a b => if a < b then b else a) a := by
  induction xs with
  | nil => intro a; simp
  | cons x xs ih =>
    intro a
    rw [List.foldl_cons]
    obtain ⟨h1, h2, h3⟩ := ih (if a < x then x else a)
    by_cases h : a < x
    · rw [if_pos h] at h1 h2 h3 ⊢
      refine ⟨.inr ?_, by omega, ?_⟩
      · rcases h1 with h1 | h1
        · rw [h1]; simp
        · exact List.mem_cons_of_mem _ h1
      · intro y hy
        rcases List.mem_cons.1 hy with rfl | hy
        · exact h2
        · exact h3 y hy
    · rw [if_neg h] at h1 h2 h3 ⊢
      refine ⟨?_, h2, ?_⟩
      · rcases h1 with h1 | h1
        · exact .inl h1
        · exact .inr (List.mem_cons_of_mem _ h1)
      · intro y hy
        rcases List.mem_cons.1 hy with rfl | hy
        · omega
        · exact h3 y hy
theorem foldMin_mem (xs : List Int) : ∀ a : Int, (xs.foldl (fun a b => if b < a then b else a) a = a ∨ xs.foldl (fun a b => if b < a then b else a) a ∈ xs) ∧ xs.foldl (fun a b => if b < a then b else a) a ≤ a ∧ ∀ x ∈ xs, xs.foldl (fun a b => if b < a then b else a) a ≤ x := by
  induction xs with
  | nil => intro a; simp
  | cons x xs ih =>
    intro a
    rw [List.foldl_cons]
    obtain ⟨h1, h2, h3⟩ := ih (if x < a then x else a)
    by_cases h : x < a
    · rw [if_pos h] at h1 h2 h3 ⊢
      refine ⟨.inr ?_, by omega, ?_⟩
      · rcases h1 with h1 | h1
        · rw [h1]; simp
        · exact List.mem_cons_of_mem _ h1
      · intro y hy
        rcases List.mem_cons.1 hy with rfl | hy
        · exact h2
        · exact h3 y hy
    · rw [if_neg h] at h1 h2 h3 ⊢
      refine ⟨?_, h2, ?_⟩
      · rcases h1 with h1 | h1
        · exact .inl h1
        · exact .inr (List.mem_cons_of_mem _ h1)
      · intro y hy
        rcases List.mem_cons.1 hy with rfl | hy
        · omega
        · exact h3 y hy
theorem maxL_spec {l : List Int} (h : l ≠ []) : maxL l ∈ l ∧ ∀ x ∈ l, x ≤ maxL l := by
  cases l with
  | nil => exact absurd rfl h
  | cons x xs =>
    obtain ⟨h1, h2, h3⟩ := foldMax_mem xs x
    refine ⟨?_, ?_⟩
    · rcases h1 with h1 | h1
      · show xs.foldl _ x ∈ _
        rw [h1]; simp
      · exact List.mem_cons_of_mem _ h1
    · intro y hy
      rcases List.mem_cons.1 hy with rfl | hy
      · exact h2
      · exact h3 y hy
theorem minL_spec {l : List Int} (h : l ≠ []) : minL l ∈ l ∧ ∀ x ∈ l, minL l ≤ x := by
  cases l with
  | nil => exact absurd rfl h
  | cons x xs =>
    obtain ⟨h1, h2, h3⟩ := foldMin_mem xs x
    refine ⟨?_, ?_⟩
    · rcases h1 with h1 | h1
      · show xs.foldl _ x ∈ _
        rw [h1]; simp
      · exact List.mem_cons_of_mem _ h1
    · intro y hy
      rcases List.mem_cons.1 hy with rfl | hy
      · exact h2
      · exact h3 y hy

theorem spec_high (l : List Int) (hl : l.length ≤ 1048576) : ∀ (d i b : Nat), l.length - i = d → i ≤ l.length → (hbi : b < i) → (hi : i ≤ l.length) → (∀ j (h : j < i), l[j] ≤ l[b]) → (∀ j (h : j < b), l[j] < l[b]) →
    ∃ (c : Nat) (hc : c < l.length), (∀ j (h : j < l.length), l[j] ≤ l[c]) ∧ (∀ j (h : j < c), l[j] < l[c]) ∧
      Ev (fun k => spec_HighestDay.l0 k l (b : Int) (i : Int)) (if l[c] = -9999 then (0, 0, false) else (l[c], (c : Int), true)) := by
  intro d
  induction d with
  | zero =>
    intro i b hd _ hbi hi h1 h2
    have hil : i = l.length := by omega
    subst hil
    refine ⟨b, hbi, h1, h2, ?_⟩
    refine Ev.step (fun k => by rw [spec_HighestDay.l0]) ?_
    refine Ev.neg (by omega) (Ev.pos (by omega) (Ev.pos (by omega) ?_))
    rw [rd_lt l b hbi]
    refine Ev.cases (fun h => ?_) (fun h => ?_)
    · exact Ev.const (by rw [if_pos h])
    · exact Ev.const (by rw [if_neg h])
  | succ d ih =>
    intro i b hd hi' hbi hi h1 h2
    have hlt : i < l.length := by omega
    by_cases hc : l[i] > l[b]
    · obtain ⟨c, hc1, h3, h4, h5⟩ := ih (i + 1) i (by omega) (by omega) (by omega) (by omega) (fun j hj => by
          by_cases e : j = i
          · subst e; exact Int.le_refl _
          · have := h1 j (by omega); omega) (fun j hj => by have := h1 j hj; omega)
      refine ⟨c, hc1, h3, h4, ?_⟩
      refine Ev.step (fun k => by rw [spec_HighestDay.l0]) ?_
      refine Ev.pos (by omega) (Ev.pos (by omega) (Ev.pos (by omega) (Ev.pos (by omega) ?_)))
      rw [rd_lt l i hlt, rd_lt l b (by omega), w64 (by omega) (by omega), show (i : Int) + 1 = ((i + 1 : Nat) : Int) from by omega]
      exact Ev.pos hc h5
    · obtain ⟨c, hc1, h3, h4, h5⟩ := ih (i + 1) b (by omega) (by omega) (by omega) (by omega) (fun j hj => by
          by_cases e : j = i
          · subst e; omega
          · exact h1 j (by omega)) h2
      refine ⟨c, hc1, h3, h4, ?_⟩
      refine Ev.step (fun k => by rw [spec_HighestDay.l0]) ?_
      refine Ev.pos (by omega) (Ev.pos (by omega) (Ev.pos (by omega) (Ev.pos (by omega) ?_)))
      rw [rd_lt l i hlt, rd_lt l b (by omega), w64 (by omega) (by omega), show (i : Int) + 1 = ((i + 1 : Nat) : Int) from by omega]
      exact Ev.neg hc h5

/-- A highest day: the first of the days with the greatest value. -/
def IsHigh (l : List Int) (c : Nat) : Prop := ∃ hc : c < l.length, (∀ j (h : j < l.length), l[j] ≤ l[c]) ∧ (∀ j (h : j < c), l[j] < l[c]) ∧ l[c] ≠ -9999
/-- A lowest day: the first of the days with the smallest value. -/
def IsLow (l : List Int) (c : Nat) : Prop := ∃ hc : c < l.length, (∀ j (h : j < l.length), l[j] ≠ -9999 → l[c] ≤ l[j]) ∧ (∀ j (h : j < c), l[j] ≠ -9999 → l[c] < l[j]) ∧ l[c] ≠ -9999

theorem known_nil_of {l : List Int} (h : ∀ x ∈ l, x = -9999) : known l = [] := by
  unfold known; rw [List.filter_eq_nil_iff]; intro x hx; simp [h x hx]

theorem highestDay (l : List Int) (hl : l.length ≤ 1048576) : ∃ r, Ev (fun k => spec_HighestDay.f k l) r ∧ Ev (fun k => impl_HighestDay.f k l) r ∧
    ((r = (0, 0, false) ∧ (seriesB l = true → known l = [])) ∨ ∃ c : Nat, seriesB l = true ∧ IsHigh l c ∧ r = (l.getD c 0, (c : Int), true)) := by
  unfold spec_HighestDay.f impl_HighestDay.f
  by_cases hs : seriesB l = true
  · have h60 := series_60 hs
    obtain ⟨c, hc, h1, h2, h3⟩ := spec_high l hl _ 1 0 rfl (by omega) (by omega) (by omega) (fun j hj => by
      have : j = 0 := by omega
      subst this; exact Int.le_refl _) (fun j hj => by omega)
    have hspec : Ev (fun k => (spec_l24Good.f k l).bind fun t240 => (if t240 = true then (spec_HighestDay.l0 k l 0 1) else (some (0, 0, false)))) (if l[c] = -9999 then (0, 0, false) else (l[c], (c : Int), true)) := Ev.bind (l24Good l hl) (Ev.pos hs h3)
    by_cases hm : l[c] = -9999
    · have hk : known l = [] := known_nil_of (fun x hx => by
        obtain ⟨j, hj, rfl⟩ := List.getElem_of_mem hx
        have := h1 j hj
        have := series_bd hs j hj
        omega)
      refine ⟨(0, 0, false), Ev.eq hspec (by rw [if_pos hm]), ?_, .inl ⟨rfl, fun _ => hk⟩⟩
      refine Ev.bindc (show impl_IsValidSeries.f l = some (seriesB l) from rfl) (Ev.pos hs (Ev.bindc (known_f l hl) ?_))
      rw [hk]
      refine Ev.step (fun k => by rw [impl_HighestDay.j0]) ?_
      exact Ev.pos (by simp) (Ev.now _)
    · refine ⟨(l[c], (c : Int), true), Ev.eq hspec (by rw [if_neg hm]), ?_, .inr ⟨c, hs, ⟨hc, h1, h2, hm⟩, by simp [hc]⟩⟩
      have hmem : l[c] ∈ known l := mem_known.2 ⟨List.getElem_mem hc, hm⟩
      have hne : known l ≠ [] := List.ne_nil_of_mem hmem
      have hmx : maxL (known l) = l[c] := by
        obtain ⟨g1, g2⟩ := maxL_spec hne
        have g3 := g2 _ hmem
        obtain ⟨j, hj, e⟩ := List.getElem_of_mem (mem_known.1 g1).1
        have := h1 j hj
        omega
      refine Ev.bindc (show impl_IsValidSeries.f l = some (seriesB l) from rfl) (Ev.pos hs (Ev.bindc (known_f l hl) ?_))
      refine Ev.step (fun k => by rw [impl_HighestDay.j0]) ?_
      have hlen : ((known l).length : Int) ≠ 0 := by
        have := List.length_pos_iff.2 hne; omega
      refine Ev.neg (by simpa using hne) (Ev.bindc (known_f l hl) (Ev.bindc (show slices_Max_int_int.f (known l) = some (l[c]) by unfold slices_Max_int_int.f; rw [if_neg hne, hmx]) ?_))
      exact Ev.bind (index_first l hl l[c] c hc rfl (fun j hj => by have := h2 j hj; omega)) (Ev.now _)
  · refine ⟨(0, 0, false), Ev.bind (l24Good l hl) (Ev.neg hs (Ev.now _)), ?_, .inl ⟨rfl, fun h => absurd h hs⟩⟩
    refine Ev.bindc (show impl_IsValidSeries.f l = some (seriesB l) from rfl) (Ev.neg hs ?_)
    refine Ev.step (fun k => by rw [impl_HighestDay.j0]) ?_
    exact Ev.pos rfl (Ev.now _)

theorem spec_low_some (l : List Int) (hl : l.length ≤ 1048576) : ∀ (d i b : Nat), l.length - i = d → (hbi : b < i) → (hi : i ≤ l.length) → l[b] ≠ -9999 → (∀ j (h : j < i), l[j] ≠ -9999 → l[b] ≤ l[j]) → (∀ j (h : j < b), l[j] ≠ -9999 → l[b] < l[j]) →
    ∃ (c : Nat) (hc : c < l.length), IsLow l c ∧ Ev (fun k => spec_LowestDay.l0 k l (b : Int) (i : Int)) (l[c], (c : Int), true) := by
  intro d
  induction d with
  | zero =>
    intro i b hd hbi hi h0 h1 h2
    have hil : i = l.length := by omega
    subst hil
    refine ⟨b, hbi, ⟨hbi, h1, h2, h0⟩, ?_⟩
    refine Ev.step (fun k => by rw [spec_LowestDay.l0]) ?_
    refine Ev.neg (by omega) (Ev.neg (by omega) (Ev.pos (by omega) (Ev.pos (by omega) ?_)))
    rw [rd_lt l b hbi]
    exact Ev.now _
  | succ d ih =>
    intro i b hd hbi hi h0 h1 h2
    have hlt : i < l.length := by omega
    by_cases hm : l[i] = -9999
    · obtain ⟨c, hc1, h3, h5⟩ := ih (i + 1) b (by omega) (by omega) (by omega) h0 (fun j hj hne => by
          by_cases e : j = i
          · subst e; exact absurd hm hne
          · exact h1 j (by omega) hne) h2
      refine ⟨c, hc1, h3, ?_⟩
      refine Ev.step (fun k => by rw [spec_LowestDay.l0]) ?_
      refine Ev.pos (by omega) (Ev.pos (by omega) ?_)
      rw [rd_lt l i hlt, w64 (by omega) (by omega), show (i : Int) + 1 = ((i + 1 : Nat) : Int) from by omega]
      exact Ev.pos hm h5
    · by_cases hc : l[i] < l[b]
      · obtain ⟨c, hc1, h3, h5⟩ := ih (i + 1) i (by omega) (by omega) (by omega) hm (fun j hj hne => by
            by_cases e : j = i
            · subst e; exact Int.le_refl _
            · have := h1 j (by omega) hne; omega) (fun j hj hne => by have := h1 j hj hne; omega)
        refine ⟨c, hc1, h3, ?_⟩
        refine Ev.step (fun k => by rw [spec_LowestDay.l0]) ?_
        refine Ev.pos (by omega) (Ev.pos (by omega) ?_)
        rw [rd_lt l i hlt, w64 (by omega) (by omega), show (i : Int) + 1 = ((i + 1 : Nat) : Int) from by omega]
        refine Ev.neg hm (Ev.neg (by omega) (Ev.pos (by omega) (Ev.pos (by omega) ?_)))
        rw [rd_lt l b (by omega)]
        exact Ev.pos hc h5
      · obtain ⟨c, hc1, h3, h5⟩ := ih (i + 1) b (by omega) (by omega) (by omega) h0 (fun j hj hne => by
            by_cases e : j = i
            · subst e; omega
            · exact h1 j (by omega) hne) h2
        refine ⟨c, hc1, h3, ?_⟩
        refine Ev.step (fun k => by rw [spec_LowestDay.l0]) ?_
        refine Ev.pos (by omega) (Ev.pos (by omega) ?_)
        rw [rd_lt l i hlt, w64 (by omega) (by omega), show (i : Int) + 1 = ((i + 1 : Nat) : Int) from by omega]
        refine Ev.neg hm (Ev.neg (by omega) (Ev.pos (by omega) (Ev.pos (by omega) ?_)))
        rw [rd_lt l b (by omega)]
        exact Ev.neg hc h5

theorem spec_low_none (l : List Int) (hl : l.length ≤ 1048576) : ∀ (d i : Nat), l.length - i = d → (hi : i ≤ l.length) → (∀ j (h : j < i), l[j] = -9999) →
    (known l = [] ∧ Ev (fun k => spec_LowestDay.l0 k l (-1) (i : Int)) (0, 0, false)) ∨
    ∃ (c : Nat) (hc : c < l.length), IsLow l c ∧ Ev (fun k => spec_LowestDay.l0 k l (-1) (i : Int)) (l[c], (c : Int), true) := by
  intro d
  induction d with
  | zero =>
    intro i hd hi h0
    have hil : i = l.length := by omega
    subst hil
    refine .inl ⟨known_nil_of (fun x hx => by
      obtain ⟨j, hj, rfl⟩ := List.getElem_of_mem hx
      exact h0 j hj), ?_⟩
    refine Ev.step (fun k => by rw [spec_LowestDay.l0]) ?_
    exact Ev.neg (by omega) (Ev.pos (by omega) (Ev.now _))
  | succ d ih =>
    intro i hd hi h0
    have hlt : i < l.length := by omega
    by_cases hm : l[i] = -9999
    · have st : ∀ r, Ev (fun k => spec_LowestDay.l0 k l (-1) ((i + 1 : Nat) : Int)) r → Ev (fun k => spec_LowestDay.l0 k l (-1) (i : Int)) r := by
        intro r hr
        refine Ev.step (fun k => by rw [spec_LowestDay.l0]) ?_
        refine Ev.pos (by omega) (Ev.pos (by omega) ?_)
        rw [rd_lt l i hlt, w64 (by omega) (by omega), show (i : Int) + 1 = ((i + 1 : Nat) : Int) from by omega]
        exact Ev.pos hm hr
      rcases ih (i + 1) (by omega) (by omega) (fun j hj => by
          by_cases e : j = i
          · subst e; exact hm
          · exact h0 j (by omega)) with ⟨h1, h2⟩ | ⟨c, hc, h1, h2⟩
      · exact .inl ⟨h1, st _ h2⟩
      · exact .inr ⟨c, hc, h1, st _ h2⟩
    · obtain ⟨c, hc, h1, h2⟩ := spec_low_some l hl _ (i + 1) i rfl (by omega) (by omega) hm (fun j hj hne => by
          by_cases e : j = i
          · subst e; exact Int.le_refl _
          · exact absurd (h0 j (by omega)) hne) (fun j hj hne => absurd (h0 j (by omega)) hne)
      refine .inr ⟨c, hc, h1, ?_⟩
      refine Ev.step (fun k => by rw [spec_LowestDay.l0]) ?_
      refine Ev.pos (by omega) (Ev.pos (by omega) ?_)
      rw [rd_lt l i hlt, w64 (by omega) (by omega), show (i : Int) + 1 = ((i + 1 : Nat) : Int) from by omega]
      exact Ev.neg hm (Ev.pos (by omega) h2)

theorem lowestDay (l : List Int) (hl : l.length ≤ 1048576) : ∃ r, Ev (fun k => spec_LowestDay.f k l) r ∧ Ev (fun k => impl_LowestDay.f k l) r ∧
    ((r = (0, 0, false) ∧ (seriesB l = true → known l = [])) ∨ ∃ c : Nat, seriesB l = true ∧ IsLow l c ∧ r = (l.getD c 0, (c : Int), true)) := by
  unfold spec_LowestDay.f impl_LowestDay.f
  by_cases hs : seriesB l = true
  · rcases spec_low_none l hl _ 0 rfl (by omega) (fun j hj => by omega) with ⟨hk, h3⟩ | ⟨c, hc, hlow, h3⟩
    · refine ⟨(0, 0, false), Ev.bind (l24Good l hl) (Ev.pos hs h3), ?_, .inl ⟨rfl, fun _ => hk⟩⟩
      refine Ev.bindc (show impl_IsValidSeries.f l = some (seriesB l) from rfl) (Ev.pos hs (Ev.bindc (known_f l hl) ?_))
      rw [hk]
      refine Ev.step (fun k => by rw [impl_LowestDay.j0]) ?_
      exact Ev.pos (by simp) (Ev.now _)
    · obtain ⟨_, h1, h2, hm⟩ := hlow
      refine ⟨(l[c], (c : Int), true), Ev.bind (l24Good l hl) (Ev.pos hs h3), ?_, .inr ⟨c, hs, ⟨hc, h1, h2, hm⟩, by simp [hc]⟩⟩
      have hmem : l[c] ∈ known l := mem_known.2 ⟨List.getElem_mem hc, hm⟩
      have hne : known l ≠ [] := List.ne_nil_of_mem hmem
      have hmx : minL (known l) = l[c] := by
        obtain ⟨g1, g2⟩ := minL_spec hne
        have g3 := g2 _ hmem
        obtain ⟨g4, g5⟩ := mem_known.1 g1
        obtain ⟨j, hj, e⟩ := List.getElem_of_mem g4
        have := h1 j hj (by omega)
        omega
      refine Ev.bindc (show impl_IsValidSeries.f l = some (seriesB l) from rfl) (Ev.pos hs (Ev.bindc (known_f l hl) ?_))
      refine Ev.step (fun k => by rw [impl_LowestDay.j0]) ?_
      refine Ev.neg (by simpa using hne) (Ev.bindc (known_f l hl) (Ev.bindc (show slices_Min_int_int.f (known l) = some (l[c]) by unfold slices_Min_int_int.f; rw [if_neg hne, hmx]) ?_))
      exact Ev.bind (index_first l hl l[c] c hc rfl (fun j hj e => by have := h2 j hj (by omega); omega)) (Ev.now _)
  · refine ⟨(0, 0, false), Ev.bind (l24Good l hl) (Ev.neg hs (Ev.now _)), ?_, .inl ⟨rfl, fun h => absurd h hs⟩⟩
    refine Ev.bindc (show impl_IsValidSeries.f l = some (seriesB l) from rfl) (Ev.neg hs ?_)
    refine Ev.step (fun k => by rw [impl_LowestDay.j0]) ?_
    exact Ev.pos rfl (Ev.now _)
end Go.Proofs.Ytdhdifoenladpaa.Pure
