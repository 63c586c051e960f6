/- The reference's record days are the program's. -/
import Derived.Test.YtdhdifoenladpaaCs
import Derived.Test.YtdhdifoenladpaaPx9
import Derived.Test.YtdhdifoenladpaaPx10
namespace Go.Proofs.Ytdhdifoenladpaa.Pure
open Go.RowKit Go.Proofs.Ytdhdifoenladpaa.P Go.Proofs.YtdhdifoenladpaaW.PrintWords Go.Proofs.YtdhdifoenladpaaW.PrintLast

theorem cell_ge {n : Int} (h : cellB n = true) : -9999 ≤ n := by
  unfold cellB at h
  simp only [Bool.or_eq_true, beq_iff_eq, Bool.and_eq_true, decide_eq_true_eq] at h
  omega
theorem series_ge {l : List Int} (h : seriesB l = true) (i : Nat) (hi : i < l.length) : -9999 ≤ l[i] := by
  unfold seriesB at h
  simp only [Bool.and_eq_true, List.all_eq_true] at h
  exact cell_ge (h.2 _ (List.getElem_mem hi))
theorem series_len {l : List Int} (h : seriesB l = true) : 1 ≤ l.length ∧ l.length ≤ 60 := by
  unfold seriesB at h
  simp only [Bool.and_eq_true, decide_eq_true_eq] at h
  omega

/-- The greatest of the first days' values, -9999 if there is none. -/
def mostL (l : List Int) (i : Nat) : Int := (l.take i).foldl max (-9999)
theorem most_succ (l : List Int) (i : Nat) (h : i < l.length) : mostL l (i + 1) = max (mostL l i) l[i] := by
  unfold mostL; rw [take_succ' l i h, List.foldl_append]; rfl
theorem foldl_max_le (xs : List Int) : ∀ (a b : Int), xs.foldl max a < b ↔ a < b ∧ ∀ x ∈ xs, x < b := by
  induction xs with
  | nil => intro a b; simp
  | cons x xs ih =>
    intro a b
    rw [List.foldl_cons, ih]
    simp only [List.mem_cons, forall_eq_or_imp]
    constructor
    · rintro ⟨h1, h2⟩; exact ⟨by omega, by omega, h2⟩
    · rintro ⟨h1, h2, h3⟩; exact ⟨by omega, h3⟩
theorem record_iff (l : List Int) (hs : seriesB l = true) (i : Nat) (h : i < l.length) : recordB l i = true ↔ mostL l i < l[i] := by
  unfold recordB mostL
  rw [foldl_max_le]
  have hd : l.getD i 0 = l[i] := by simp [h]
  rw [hd]
  simp only [Bool.and_eq_true, bne_iff_ne, Bool.not_eq_true', List.any_eq_false, decide_eq_true_eq]
  have hge := series_ge hs i h
  constructor
  · rintro ⟨h1, h2⟩
    refine ⟨by omega, fun x hx => ?_⟩
    have h3 := h2 x hx
    have hx' : x ∈ l := List.mem_of_mem_take hx
    by_cases e : x = -9999
    · omega
    · have : ¬ l[i] ≤ x := fun h4 => h3 ⟨e, h4⟩
      omega
  · rintro ⟨h1, h2⟩
    exact ⟨by omega, fun x hx h3 => by have := h2 x hx; omega⟩

theorem spec_rec (l : List Int) (hs : seriesB l = true) : ∀ (d i : Nat), l.length - i = d → i ≤ l.length →
    Ev (fun k => spec_RecordDays.l0 k l (recs l i) (mostL l i) (i : Int)) (recs l l.length, true) := by
  have hlen := series_len hs
  intro d
  induction d with
  | zero =>
    intro i hd hi
    refine Ev.step (fun k => by rw [spec_RecordDays.l0]) (Ev.neg (by omega) (Ev.const ?_))
    rw [show i = l.length from by omega]
  | succ d ih =>
    intro i hd hi
    have hlt : i < l.length := by omega
    refine Ev.step (fun k => by rw [spec_RecordDays.l0]) (Ev.pos (by omega) (Ev.pos (by omega) ?_))
    have e := ih (i + 1) (by omega) (by omega)
    have hrec := record_iff l hs i hlt
    have hl := recs_len l i
    rw [rd_lt l i hlt, w64 (by omega) (by omega), show (i : Int) + 1 = ((i + 1 : Nat) : Int) from by omega]
    rw [recs_succ, most_succ l i hlt] at e
    refine Ev.cases (fun h => ?_) (fun h => ?_)
    · refine Ev.pos (by omega) ?_
      rw [if_pos (hrec.2 h), show max (mostL l i) l[i] = l[i] from by omega] at e
      exact e
    · rw [if_neg (fun hh => h (hrec.1 hh)), show max (mostL l i) l[i] = mostL l i from by omega] at e
      exact e

theorem recordDays (l : List Int) (hl : l.length ≤ 1048576) : ∃ (r : List Int) (b : Bool), impl_RecordDays.f l = some (r, b) ∧ Ev (fun k => spec_RecordDays.f k l) (r, b) ∧ r.length ≤ 1048576 := by
  unfold impl_RecordDays.f spec_RecordDays.f
  by_cases hs : seriesB l = true
  · refine ⟨recs l l.length, true, by rw [if_pos hs], ?_, by have := recs_len l l.length; omega⟩
    refine Ev.bindc rfl (Ev.bind (l24Good l hl) (Ev.pos hs ?_))
    exact spec_rec l hs _ 0 rfl (by omega)
  · refine ⟨[], false, by rw [if_neg hs], ?_, by simp⟩
    exact Ev.bindc rfl (Ev.bind (l24Good l hl) (Ev.neg hs (Ev.now _)))
end Go.Proofs.Ytdhdifoenladpaa.Pure
