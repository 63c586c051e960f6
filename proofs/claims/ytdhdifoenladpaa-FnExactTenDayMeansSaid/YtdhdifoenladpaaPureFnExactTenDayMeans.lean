/- The program's TenDayMeans returns what the reference's returns, for all arguments. Conditions: none beyond the given statement's. -/
import Derived.Test.YtdhdifoenladpaaPx0
import Derived.Test.YtdhdifoenladpaaPx5
import Derived.Test.YtdhdifoenladpaaPx3
import Derived.Test.YtdhdifoenladpaaPx4
import Derived.Test.YtdhdifoenladpaaPx12
import Derived.Test.YtdhdifoenladpaaPx8
import Derived.Test.YtdhdifoenladpaaPx11
import Derived.Test.YtdhdifoenladpaaPx14
import Derived.Test.YtdhdifoenladpaaPx7
import Derived.Test.YtdhdifoenladpaaPx17
import Derived.Test.YtdhdifoenladpaaPx9
import Derived.Test.YtdhdifoenladpaaPx10
import Derived.Test.YtdhdifoenladpaaPx29
import Derived.Test.YtdhdifoenladpaaPx45
import Derived.Test.YtdhdifoenladpaaPx30
import Derived.Test.YtdhdifoenladpaaPx27
import Derived.Test.YtdhdifoenladpaaPx28
import Derived.Test.YtdhdifoenladpaaPx16
import Derived.Test.YtdhdifoenladpaaPx6
import Derived.Test.YtdhdifoenladpaaPx31
import Derived.Test.YtdhdifoenladpaaPx32
import Derived.Test.YtdhdifoenladpaaPx47
/- Small laws on "with enough rounds the function answers r" (Ev) and on wrapping sums; used by every plain law of this seat. -/
namespace Go.Proofs.Ytdhdifoenladpaa.Pure
open Go.RowKit Go.Proofs.YtdhdifoenladpaaW.PrintWords Go.Proofs.YtdhdifoenladpaaW.PrintLast

section
variable {α β : Type} {r : α} {f g : Nat → Option α}
theorem Ev.pos {c : Prop} [Decidable c] (h : c) (e : Ev f r) : Ev (fun k => if c then f k else g k) r := e.congr fun _ => if_pos h
theorem Ev.neg {c : Prop} [Decidable c] (h : ¬ c) (e : Ev g r) : Ev (fun k => if c then f k else g k) r := e.congr fun _ => if_neg h
theorem Ev.const {a : Option α} (h : a = some r) : Ev (fun _ => a) r := ⟨0, fun _ _ => h⟩
theorem Ev.bindc {a : Option β} {b : β} {f : Nat → β → Option α} (h : a = some b) (k : Ev (fun n => f n b) r) : Ev (fun n => a.bind (f n)) r := Ev.bind (Ev.const h) k
theorem Ev.eq {r' : α} (h : Ev f r) (e : r = r') : Ev f r' := e ▸ h
theorem Ev.cases {c : Prop} [Decidable c] (h1 : c → Ev f r) (h2 : ¬ c → Ev g r) : Ev (fun k => if c then f k else g k) r := by
  by_cases h : c
  · exact Ev.pos h (h1 h)
  · exact Ev.neg h (h2 h)
/-- Two answers of one function are one. -/
theorem Ev.uniq {r' : α} (h : Ev f r) (h' : Ev f r') : r = r' := by
  obtain ⟨K, hK⟩ := h
  obtain ⟨K', hK'⟩ := h'
  have a := hK (max K K') (Nat.le_max_left _ _)
  have b := hK' (max K K') (Nat.le_max_right _ _)
  rw [a] at b
  exact Option.some.inj b
end

theorem w64 {x : Int} (h1 : -9223372036854775808 ≤ x) (h2 : x ≤ 9223372036854775807) : wrap64 x = x := by unfold wrap64; omega

theorem rd_nat (l : List Int) (i : Nat) : rd l (i : Int) = l.getD i 0 := by simp [rd]
theorem rd_lt (l : List Int) (i : Nat) (h : i < l.length) : rd l (i : Int) = l[i] := by simp [rd, h]
theorem take_succ' {α : Type} (l : List α) (i : Nat) (h : i < l.length) : l.take (i + 1) = l.take i ++ [l[i]] := by
  rw [List.take_succ_eq_append_getElem h]
theorem drop_cons' {α : Type} (l : List α) (i : Nat) (h : i < l.length) : l.drop i = l[i] :: l.drop (i + 1) := List.drop_eq_getElem_cons h
end Go.Proofs.Ytdhdifoenladpaa.Pure

/- The laws' own helpers on lists of integers: a copy, an equality, marks and their check. -/
namespace Go.Proofs.Ytdhdifoenladpaa.Pure
open Go.RowKit Go.Proofs.Ytdhdifoenladpaa.P Go.Proofs.YtdhdifoenladpaaW.PrintWords Go.Proofs.YtdhdifoenladpaaW.PrintLast

theorem toIntS_l0 (l : List Int) (hl : l.length ≤ 1048576) : ∀ (d i : Nat) (o : List Int), l.length - i = d → i ≤ l.length → o.length = l.length → o.take i = l.take i →
    Ev (fun k => laws_toIntS.l0 k l o (i : Int)) l := by
  intro d
  induction d with
  | zero =>
    intro i o hd hi ho ht
    refine Ev.step (fun k => by rw [laws_toIntS.l0]) ?_
    refine Ev.neg (by omega) (Ev.const ?_)
    have hi' : i = l.length := by omega
    subst hi'
    rw [List.take_of_length_le (by omega), List.take_of_length_le (by omega)] at ht
    rw [ht]
  | succ d ih =>
    intro i o hd hi ho ht
    refine Ev.step (fun k => by rw [laws_toIntS.l0]) ?_
    refine Ev.pos (by omega) (Ev.pos (by omega) (Ev.pos (by omega) ?_))
    rw [w64 (by omega) (by omega), show (i : Int) + 1 = ((i + 1 : Nat) : Int) from by omega]
    refine ih (i + 1) _ (by omega) (by omega) (by simpa using ho) ?_
    rw [rd_lt l i (by omega), Int.toNat_natCast, take_succ' _ _ (by simp; omega), take_succ' l _ (by omega)]
    rw [List.take_set_of_le (Nat.le_refl i), ht]; simp
theorem toIntS (l : List Int) (hl : l.length ≤ 1048576) : Ev (fun k => laws_toIntS.f k l) l := by
  unfold laws_toIntS.f
  refine Ev.pos (by omega) (Ev.pos (by omega) ?_)
  exact toIntS_l0 l hl _ 0 _ rfl (by omega) (by simp) (by simp)

theorem eqIntS_l0 (a b : List Int) (hl : a.length ≤ 4611686018427387904) (hab : a.length = b.length) : ∀ (d i : Nat), a.length - i = d → i ≤ a.length →
    Ev (fun k => laws_eqIntS.l0 k a b (i : Int)) (decide (a.drop i = b.drop i)) := by
  intro d
  induction d with
  | zero =>
    intro i hd hi
    refine Ev.step (fun k => by rw [laws_eqIntS.l0]) ?_
    refine Ev.neg (by omega) (Ev.const ?_)
    rw [List.drop_of_length_le (by omega), List.drop_of_length_le (by omega)]; simp
  | succ d ih =>
    intro i hd hi
    refine Ev.step (fun k => by rw [laws_eqIntS.l0]) ?_
    refine Ev.pos (by omega) (Ev.pos (by omega) (Ev.pos (by omega) ?_))
    rw [w64 (by omega) (by omega), show (i : Int) + 1 = ((i + 1 : Nat) : Int) from by omega, rd_lt a i (by omega), rd_lt b i (by omega), drop_cons' a i (by omega), drop_cons' b i (by omega)]
    refine Ev.cases (fun h => ?_) (fun h => ?_)
    · exact Ev.eq (ih (i + 1) (by omega) (by omega)) (by rw [h]; simp only [List.cons.injEq, true_and])
    · exact Ev.const (by rw [decide_eq_false (fun e => h (List.cons.inj e).1)])
theorem eqIntS (a b : List Int) (hl : a.length ≤ 4611686018427387904) : Ev (fun k => laws_eqIntS.f k a b) (decide (a = b)) := by
  unfold laws_eqIntS.f
  refine Ev.cases (fun h => ?_) (fun h => ?_)
  · exact Ev.eq (eqIntS_l0 a b hl (by omega) _ 0 rfl (by omega)) (by simp)
  · refine Ev.const ?_
    congr 1
    refine (decide_eq_false fun e => h ?_).symm
    rw [e]
end Go.Proofs.Ytdhdifoenladpaa.Pure

/- The reference's test of a series is the program's. -/
namespace Go.Proofs.Ytdhdifoenladpaa.Pure
open Go.RowKit Go.Proofs.Ytdhdifoenladpaa.P Go.Proofs.YtdhdifoenladpaaW.PrintWords Go.Proofs.YtdhdifoenladpaaW.PrintLast

theorem l1In_f (x a b : Int) : spec_l1In.f x a b = some (decide (a ≤ x) && decide (x ≤ b)) := by
  unfold spec_l1In.f
  by_cases h : x ≥ a
  · simp [h]
  · simp [h]
theorem within_f (x a b : Int) : impl_within.f x a b = some (decide (a ≤ x) && decide (x ≤ b)) := by
  unfold impl_within.f
  by_cases h : x ≥ a
  · simp [h]
  · simp [h]
theorem threshold_f (x : Int) : spec_l13Threshold.f x = some (decide (-9000 ≤ x) && decide (x ≤ 9000)) := by
  unfold spec_l13Threshold.f; rw [l1In_f]; rfl

theorem l24Good_l0 (l : List Int) (hl : l.length ≤ 1048576) : ∀ (d i : Nat), l.length - i = d → i ≤ l.length →
    Ev (fun k => spec_l24Good.l0 k l (i : Int)) ((l.drop i).all cellB && (decide (1 ≤ (l.length : Int)) && decide ((l.length : Int) ≤ 60))) := by
  intro d
  induction d with
  | zero =>
    intro i hd hi
    refine Ev.step (fun k => by rw [spec_l24Good.l0]) ?_
    refine Ev.neg (by omega) (Ev.const ?_)
    rw [l1In_f, List.drop_of_length_le (by omega)]; rfl
  | succ d ih =>
    intro i hd hi
    refine Ev.step (fun k => by rw [spec_l24Good.l0]) ?_
    refine Ev.pos (by omega) (Ev.pos (by omega) ?_)
    have e := ih (i + 1) (by omega) (by omega)
    rw [w64 (by omega) (by omega), show (i : Int) + 1 = ((i + 1 : Nat) : Int) from by omega, rd_lt l i (by omega), drop_cons' l i (by omega), List.all_cons]
    refine Ev.cases (fun h => ?_) (fun h => ?_)
    · exact Ev.eq e (by simp [cellB, h])
    · refine Ev.bindc (threshold_f _) ?_
      refine Ev.cases (fun h' => ?_) (fun h' => ?_)
      · exact Ev.eq e (by simp only [cellB, h', Bool.or_true, Bool.true_and])
      · refine Ev.const ?_
        have : cellB l[i] = false := by simp only [cellB]; simp at h' ⊢; exact ⟨h, h'⟩
        rw [this]; rfl
theorem l24Good (l : List Int) (hl : l.length ≤ 1048576) : Ev (fun k => spec_l24Good.f k l) (seriesB l) := by
  unfold spec_l24Good.f
  exact Ev.eq (l24Good_l0 l hl _ 0 rfl (by omega)) (by unfold seriesB; rw [List.drop_zero, Bool.and_comm])
end Go.Proofs.Ytdhdifoenladpaa.Pure

/- The laws' marks on a list of integers and their check. -/
namespace Go.Proofs.Ytdhdifoenladpaa.Pure
open Go.RowKit Go.Proofs.Ytdhdifoenladpaa.P Go.Proofs.YtdhdifoenladpaaW.PrintWords Go.Proofs.YtdhdifoenladpaaW.PrintLast

/-- The marks a, a + 1, .. -/
def iota (a : Int) : Nat → List Int
  | 0 => []
  | n + 1 => a :: iota (a + 1) n
theorem iota_length : ∀ (n : Nat) (a : Int), (iota a n).length = n
  | 0, _ => rfl
  | n + 1, a => by simp [iota, iota_length n]
theorem iota_get : ∀ (n : Nat) (a : Int) (i : Nat) (h : i < (iota a n).length), (iota a n)[i] = a + i
  | 0, _, i, h => by simp [iota] at h
  | n + 1, a, 0, _ => by simp [iota]
  | n + 1, a, i + 1, h => by
    simp only [iota, List.getElem_cons_succ]
    rw [iota_get n (a + 1) i (by simpa [iota] using h)]; omega
theorem mark_l0 (n : Nat) (a : Int) (ha : 0 ≤ a) (hb : a + n ≤ 4611686018427387904) : ∀ (d i : Nat) (o : List Int), n - i = d → i ≤ n → o.length = n →
    Ev (fun k => laws_markIntS.l0 k o (a + i) (i : Int)) (a + n, o.take i ++ iota (a + i) (n - i)) := by
  intro d
  induction d with
  | zero =>
    intro i o hd hi ho
    refine Ev.step (fun k => by rw [laws_markIntS.l0]) (Ev.neg (by omega) (Ev.const ?_))
    have : i = n := by omega
    subst this
    rw [Nat.sub_self, List.take_of_length_le (by omega)]; simp [iota]
  | succ d ih =>
    intro i o hd hi ho
    refine Ev.step (fun k => by rw [laws_markIntS.l0]) (Ev.pos (by omega) (Ev.pos (by omega) ?_))
    rw [w64 (x := a + i + 1) (by omega) (by omega), w64 (by omega) (by omega), show (i : Int) + 1 = ((i + 1 : Nat) : Int) from by omega, show a + (i : Int) + 1 = a + ((i + 1 : Nat) : Int) from by omega, Int.toNat_natCast]
    refine Ev.eq (ih (i + 1) (o.set i (a + i)) (by omega) (by omega) (by simpa using ho)) ?_
    rw [take_succ' _ _ (by simp; omega), List.take_set_of_le (Nat.le_refl i), show n - i = (n - (i + 1)) + 1 from by omega]
    simp only [iota, List.getElem_set_self, List.append_assoc, List.singleton_append]
    rw [show a + ((i + 1 : Nat) : Int) = a + (i : Int) + 1 from by omega]
theorem mark (l : List Int) (hb : l.length ≤ 2305843009213693952) : Ev (fun k => laws_markIntS.f k l 1) (1 + (l.length : Int), iota 1 l.length) := by
  unfold laws_markIntS.f
  exact Ev.eq (mark_l0 l.length 1 (by omega) (by omega) _ 0 l rfl (by omega) rfl) (by simp)
theorem held_l0 (n : Nat) (a : Int) (ha : 0 ≤ a) (hb : a + n ≤ 4611686018427387904) : ∀ (d i : Nat), n - i = d → i ≤ n →
    Ev (fun k => laws_heldIntS.l0 k (iota a n) (a + i) (i : Int)) (a + n) := by
  intro d
  induction d with
  | zero =>
    intro i hd hi
    refine Ev.step (fun k => by rw [laws_heldIntS.l0]) (Ev.neg (by rw [iota_length]; omega) (Ev.const ?_))
    rw [show i = n from by omega]
  | succ d ih =>
    intro i hd hi
    refine Ev.step (fun k => by rw [laws_heldIntS.l0]) (Ev.pos (by rw [iota_length]; omega) (Ev.pos (by omega) ?_))
    rw [rd_lt _ i (by rw [iota_length]; omega), iota_get]
    refine Ev.pos rfl ?_
    rw [w64 (x := a + i + 1) (by omega) (by omega), w64 (by omega) (by omega), show (i : Int) + 1 = ((i + 1 : Nat) : Int) from by omega, show a + (i : Int) + 1 = a + ((i + 1 : Nat) : Int) from by omega]
    exact ih (i + 1) (by omega) (by omega)
theorem held (n : Nat) (hb : n ≤ 2305843009213693952) : Ev (fun k => laws_heldIntS.f k (iota 1 n) 1) (1 + (n : Int)) := by
  unfold laws_heldIntS.f
  exact Ev.eq (held_l0 n 1 (by omega) (by omega) _ 0 rfl (by omega)) (by simp)
end Go.Proofs.Ytdhdifoenladpaa.Pure

/- Sums over the days of a series, and whether a series has a value on a day. -/
namespace Go.Proofs.Ytdhdifoenladpaa.Pure
open Go.RowKit Go.Proofs.Ytdhdifoenladpaa.P Go.Proofs.YtdhdifoenladpaaW.PrintWords Go.Proofs.YtdhdifoenladpaaW.PrintLast

theorem cell_bd {n : Int} (h : cellB n = true) : -9999 ≤ n ∧ n ≤ 9000 := by
  unfold cellB at h
  simp only [Bool.or_eq_true, beq_iff_eq, Bool.and_eq_true, decide_eq_true_eq] at h
  omega
theorem cell_bd' {n : Int} (h : cellB n = true) (h2 : n ≠ -9999) : -9000 ≤ n ∧ n ≤ 9000 := by
  unfold cellB at h
  simp only [Bool.or_eq_true, beq_iff_eq, Bool.and_eq_true, decide_eq_true_eq] at h
  omega
theorem series_cell {l : List Int} (h : seriesB l = true) (x : Int) (hx : x ∈ l) : cellB x = true := by
  unfold seriesB at h
  simp only [Bool.and_eq_true, List.all_eq_true] at h
  exact h.2 x hx
theorem series_bd {l : List Int} (h : seriesB l = true) (i : Nat) (hi : i < l.length) : -9999 ≤ l[i] ∧ l[i] ≤ 9000 :=
  cell_bd (series_cell h _ (List.getElem_mem hi))
theorem series_60 {l : List Int} (h : seriesB l = true) : 1 ≤ l.length ∧ l.length ≤ 60 := by
  unfold seriesB at h
  simp only [Bool.and_eq_true, decide_eq_true_eq] at h
  omega

theorem known_cons (x : Int) (xs : List Int) : known (x :: xs) = if x = -9999 then known xs else x :: known xs := by
  unfold known
  rw [List.filter_cons]
  by_cases h : x = -9999
  · simp [h]
  · simp [h]
theorem known_le (l : List Int) : (known l).length ≤ l.length := List.length_filter_le _ _
theorem known_f (l : List Int) (h : l.length ≤ 1048576) : impl_knownValues.f l = some (known l) := by
  unfold impl_knownValues.f; rw [if_pos (by omega)]
theorem mem_known {x : Int} {l : List Int} : x ∈ known l ↔ x ∈ l ∧ x ≠ -9999 := by
  unfold known; simp

theorem l24Sum_l0 (l : List Int) (hs : ∀ i (h : i < l.length), -10000 ≤ l[i] ∧ l[i] ≤ 10000) (hl : l.length ≤ 1048576) (te : Int) (T : Nat) (hT : T ≤ l.length) (hto : ∀ j : Nat, j < l.length → ((j : Int) ≤ te ↔ j < T)) (htl : te ≤ 4611686018427387904) :
    ∀ (d i : Nat) (s n : Int), T - i = d → i ≤ T → -(10000 * (i : Int)) ≤ s → s ≤ 10000 * (i : Int) → 0 ≤ n → n ≤ i →
    Ev (fun k => spec_l24Sum.l0 k l te s n (i : Int)) (s + (known ((l.take T).drop i)).sum, n + ((known ((l.take T).drop i)).length : Int)) := by
  intro d
  induction d with
  | zero =>
    intro i s n hd hi _ _ _ _
    have hiT : i = T := by omega
    subst hiT
    have hj : Ev (fun k => spec_l24Sum.j1 k l te s n (i : Int) false) (s + (known ((l.take i).drop i)).sum, n + ((known ((l.take i).drop i)).length : Int)) := by
      refine Ev.step (fun k => by rw [spec_l24Sum.j1]) ?_
      refine Ev.neg (by simp) (Ev.const ?_)
      rw [List.drop_of_length_le (by simp; omega)]; simp [known]
    refine Ev.step (fun k => by rw [spec_l24Sum.l0]) ?_
    refine Ev.cases (fun h => ?_) (fun _ => hj)
    have : ¬ i < l.length := fun h' => by have := (hto i h').1 h; omega
    rw [show decide ((i : Int) < (l.length : Int)) = false from decide_eq_false (by omega)]
    exact hj
  | succ d ih =>
    intro i s n hd hi h1 h2 h3 h4
    have hlt : i < l.length := by omega
    have hle := (hto i hlt).2 (by omega)
    have hb := hs i hlt
    refine Ev.step (fun k => by rw [spec_l24Sum.l0]) ?_
    refine Ev.pos hle ?_
    rw [show decide ((i : Int) < (l.length : Int)) = true from decide_eq_true (by omega)]
    refine Ev.step (fun k => by rw [spec_l24Sum.j1]) ?_
    refine Ev.pos rfl (Ev.pos (by omega) (Ev.pos (by omega) ?_))
    have hdr : (l.take T).drop i = l[i] :: (l.take T).drop (i + 1) := by
      rw [drop_cons' _ i (by simp; omega)]; simp
    rw [rd_lt l i hlt, hdr, known_cons, w64 (x := (i : Int) + 1) (by omega) (by omega), show (i : Int) + 1 = ((i + 1 : Nat) : Int) from by omega]
    refine Ev.cases (fun h => ?_) (fun h => ?_)
    · rw [if_pos h]
      exact ih (i + 1) s n (by omega) (by omega) (by omega) (by omega) (by omega) (by omega)
    · rw [if_neg h, w64 (x := s + l[i]) (by omega) (by omega), w64 (x := n + 1) (by omega) (by omega)]
      refine Ev.eq (ih (i + 1) (s + l[i]) (n + 1) (by omega) (by omega) (by omega) (by omega) (by omega) (by omega)) ?_
      rw [List.sum_cons, List.length_cons]
      congr 1
      · omega
      · omega
theorem series_bd' {l : List Int} (h : seriesB l = true) : ∀ i (hi : i < l.length), -10000 ≤ l[i] ∧ l[i] ≤ 10000 := fun i hi => by
  have := series_bd h i hi; omega
/-- The reference's sum over the days from..te. -/
theorem l24Sum (l : List Int) (hs : seriesB l = true) (i : Nat) (te : Int) (T : Nat) (hi : i ≤ T) (hT : T ≤ l.length) (hto : ∀ j : Nat, j < l.length → ((j : Int) ≤ te ↔ j < T)) (htl : te ≤ 4611686018427387904) :
    Ev (fun k => spec_l24Sum.f k l (i : Int) te) ((known ((l.take T).drop i)).sum, ((known ((l.take T).drop i)).length : Int)) := by
  have h60 := series_60 hs
  unfold spec_l24Sum.f
  exact Ev.eq (l24Sum_l0 l (series_bd' hs) (by omega) te T hT hto htl _ i 0 0 rfl hi (by omega) (by omega) (by omega) (by omega)) (by simp)
/-- .. over all days. -/
theorem l24SumAll (l : List Int) (hs : seriesB l = true) : Ev (fun k => spec_l24Sum.f k l 0 (wrap64 ((l.length : Int) - 1))) ((known l).sum, ((known l).length : Int)) := by
  have h60 := series_60 hs
  rw [w64 (by omega) (by omega)]
  have := l24Sum l hs 0 ((l.length : Int) - 1) l.length (by omega) (Nat.le_refl _) (fun j hj => by omega) (by omega)
  rw [List.take_length, List.drop_zero] at this
  exact this

theorem l24Day (l : List Int) (hl : l.length ≤ 1048576) (d : Int) : Ev (fun k => spec_l24Day.f k l d) (seriesB l && (decide (0 ≤ d) && decide (d ≤ (l.length : Int) - 1))) := by
  unfold spec_l24Day.f
  refine Ev.bind (l24Good l hl) (Ev.cases (fun h => ?_) (fun h => ?_))
  · have := series_60 h
    rw [w64 (by omega) (by omega)]
    refine Ev.bindc (l1In_f _ _ _) (Ev.const ?_)
    rw [h, Bool.true_and]
  · exact Ev.const (by rw [Bool.eq_false_iff.mpr h]; rfl)
theorem hasDay_yes (l : List Int) (hs : seriesB l = true) (d : Nat) (hd : d < l.length) : impl_hasDay.f l (d : Int) = some (l[d] != -9999) := by
  have h60 := series_60 hs
  unfold impl_hasDay.f
  rw [show impl_IsValidSeries.f l = some (seriesB l) from rfl]
  simp only [Option.bind_some]
  rw [if_pos hs, within_f, w64 (by omega) (by omega)]
  simp only [Option.bind_some]
  rw [if_pos (by simp only [Bool.and_eq_true, decide_eq_true_eq]; omega), if_pos (by omega), if_pos (by omega), rd_lt l d hd]
theorem hasDay_no (l : List Int) (hl : l.length ≤ 1048576) (d : Int) (h : ¬ (seriesB l = true ∧ 0 ≤ d ∧ d < l.length)) : impl_hasDay.f l d = some false := by
  unfold impl_hasDay.f
  rw [show impl_IsValidSeries.f l = some (seriesB l) from rfl]
  simp only [Option.bind_some]
  by_cases hs : seriesB l = true
  · have h60 := series_60 hs
    rw [if_pos hs, within_f, w64 (by omega) (by omega)]
    simp only [Option.bind_some]
    rw [if_neg (by simp only [Bool.and_eq_true, decide_eq_true_eq]; intro h2; exact h ⟨hs, h2.1, by omega⟩)]
  · rw [if_neg hs]
end Go.Proofs.Ytdhdifoenladpaa.Pure

/- Fractions in lowest terms: the reference's and the program's greatest common divisor and sum. -/
namespace Go.Proofs.Ytdhdifoenladpaa.Pure
open Go.RowKit Go.Proofs.Ytdhdifoenladpaa.P Go.Proofs.YtdhdifoenladpaaW.PrintWords Go.Proofs.YtdhdifoenladpaaW.PrintLast

theorem gcd_step (a b : Int) (hb : 0 < b) (ha : 0 ≤ a) : (Int.gcd b (Int.tmod a b) : Int) = Int.gcd a b := by
  obtain ⟨m, rfl⟩ := Int.eq_ofNat_of_zero_le ha
  obtain ⟨n, rfl⟩ := Int.eq_ofNat_of_zero_le (Int.le_of_lt hb)
  have h : Nat.gcd n (m % n) = Nat.gcd m n := by rw [Nat.gcd_comm n, ← Nat.gcd_rec, Nat.gcd_comm]
  rw [← Int.ofNat_tmod]
  exact congrArg Int.ofNat h
theorem common_l0 : ∀ (n : Nat) (a b : Int), b.toNat ≤ n → 0 ≤ a → 0 ≤ b → Ev (fun k => spec_l21Common.l0 k a b) (Int.gcd a b : Int) := by
  intro n
  induction n with
  | zero =>
    intro a b hn ha hb
    have : b = 0 := by omega
    subst this
    refine Ev.step (fun k => by rw [spec_l21Common.l0]) ?_
    refine Ev.pos rfl (Ev.const ?_)
    rw [Int.gcd_zero_right]; congr 1; omega
  | succ n ih =>
    intro a b hn ha hb
    refine Ev.step (fun k => by rw [spec_l21Common.l0]) ?_
    refine Ev.cases (fun h => ?_) (fun h => ?_)
    · subst h
      refine Ev.const ?_
      rw [Int.gcd_zero_right]; congr 1; omega
    · have hb' : 0 < b := by omega
      have h1 := Int.tmod_nonneg b ha
      have h2 := Int.tmod_lt_of_pos a hb'
      exact Ev.eq (ih b (Int.tmod a b) (by omega) hb h1) (gcd_step a b hb' ha)
theorem divisor_l0 : ∀ (n : Nat) (a b : Int), b.toNat ≤ n → 0 ≤ a → 0 ≤ b → Ev (fun k => impl_divisorOf.l0 k a b) (Int.gcd a b : Int) := by
  intro n
  induction n with
  | zero =>
    intro a b hn ha hb
    have : b = 0 := by omega
    subst this
    refine Ev.step (fun k => by rw [impl_divisorOf.l0]) ?_
    refine Ev.neg (by omega) (Ev.const ?_)
    rw [Int.gcd_zero_right]; congr 1; omega
  | succ n ih =>
    intro a b hn ha hb
    refine Ev.step (fun k => by rw [impl_divisorOf.l0]) ?_
    refine Ev.cases (fun h => ?_) (fun h => ?_)
    · refine Ev.neg (by omega) ?_
      have h1 := Int.tmod_nonneg b ha
      have h2 := Int.tmod_lt_of_pos a h
      exact Ev.eq (ih b (Int.tmod a b) (by omega) hb h1) (gcd_step a b h ha)
    · have : b = 0 := by omega
      subst this
      refine Ev.const ?_
      rw [Int.gcd_zero_right]; congr 1; omega
theorem abs_f (a : Int) (h1 : -4611686018427387904 ≤ a) : impl_absOf.f a = some (a.natAbs : Int) := by
  unfold impl_absOf.f
  by_cases h : a < 0
  · rw [if_pos h, w64 (by omega) (by omega)]; congr 1; omega
  · rw [if_neg h]; congr 1; omega
theorem most_neg (a : Int) (h1 : -4611686018427387904 ≤ a) (h2 : a ≤ 4611686018427387904) : spec_l1Most.f a (wrap64 (-a)) = some (a.natAbs : Int) := by
  unfold spec_l1Most.f
  rw [w64 (by omega) (by omega)]
  split <;> (congr 1; omega)
/-- A fraction in lowest terms. -/
def lowest (n d : Int) : Int × Int := (Int.tdiv n (Int.gcd n d : Int), Int.tdiv d (Int.gcd n d : Int))
theorem tdiv_bd (n d : Int) : -(n.natAbs : Int) ≤ Int.tdiv n d ∧ Int.tdiv n d ≤ n.natAbs := by
  have h := Int.natAbs_tdiv_le_natAbs n d
  omega
theorem reduce_ev (n d : Int) (h1 : -4611686018427387904 ≤ n) (h2 : n ≤ 4611686018427387904) (h3 : 0 < d) (h4 : d ≤ 4611686018427387904) : Ev (fun k => spec_l21Reduce.f k n d) (lowest n d) := by
  unfold spec_l21Reduce.f spec_l21Common.f
  have hg : (Int.gcd n d : Int) ≠ 0 := by
    intro h
    have := Int.gcd_eq_zero_iff.1 (Int.ofNat.inj h)
    omega
  refine Ev.bind (a := (Int.gcd n d : Int)) ?_ ?_
  · refine Ev.bindc (most_neg n h1 h2) (Ev.bindc (most_neg d (by omega) h4) ?_)
    exact Ev.eq (common_l0 _ _ _ (Nat.le_refl _) (by omega) (by omega)) (by simp only [Int.gcd, Int.natAbs_natCast])
  · refine Ev.neg hg (Ev.const ?_)
    have b1 := tdiv_bd n (Int.gcd n d : Int)
    have b2 := tdiv_bd d (Int.gcd n d : Int)
    rw [w64 (by omega) (by omega), w64 (by omega) (by omega)]; rfl
theorem fraction_ev (n d : Int) (h1 : -4611686018427387904 ≤ n) (h2 : n ≤ 4611686018427387904) (h3 : 0 < d) (h4 : d ≤ 4611686018427387904) : Ev (fun k => impl_fraction.f k n d) ((lowest n d).1, (lowest n d).2, true) := by
  unfold impl_fraction.f impl_ratioOf.f impl_divisorOf.f
  have hg : (Int.gcd n d : Int) ≠ 0 := by
    intro h
    have := Int.gcd_eq_zero_iff.1 (Int.ofNat.inj h)
    omega
  refine Ev.bind (a := ((lowest n d).1, (lowest n d).2, true)) ?_ (Ev.now _)
  refine Ev.neg (by omega) (Ev.neg (by omega) (Ev.bindc (abs_f n h1) ?_))
  refine Ev.bind (Ev.eq (divisor_l0 _ _ _ (Nat.le_refl _) (by omega) (by omega)) (show _ = (Int.gcd n d : Int) by rw [Int.gcd_comm]; simp only [Int.gcd, Int.natAbs_natCast])) ?_
  refine Ev.neg hg (Ev.const ?_)
  have b1 := tdiv_bd n (Int.gcd n d : Int)
  have b2 := tdiv_bd d (Int.gcd n d : Int)
  rw [w64 (by omega) (by omega), w64 (by omega) (by omega)]; rfl
theorem fraction_zero (n : Int) : Ev (fun k => impl_fraction.f k n 0) (0, 0, false) := by
  unfold impl_fraction.f impl_ratioOf.f
  exact Ev.bind (a := (0, 0, false)) (Ev.pos rfl (Ev.now _)) (Ev.now _)

theorem sumOf_l0 (l : List Int) (hl : l.length ≤ 1048576) (hb : ∀ i (h : i < l.length), -10000000 ≤ l[i] ∧ l[i] ≤ 10000000) : ∀ (d i : Nat) (s : Int), l.length - i = d → i ≤ l.length → -(10000000 * (i : Int)) ≤ s → s ≤ 10000000 * (i : Int) →
    Ev (fun k => impl_sumOf.l0 k s l (l.length : Int) (i : Int)) (s + (l.drop i).sum) := by
  intro d
  induction d with
  | zero =>
    intro i s hd hi _ _
    refine Ev.step (fun k => by rw [impl_sumOf.l0]) ?_
    refine Ev.neg (by omega) (Ev.const ?_)
    rw [List.drop_of_length_le (by omega)]; simp
  | succ d ih =>
    intro i s hd hi h1 h2
    have hlt : i < l.length := by omega
    have b := hb i hlt
    refine Ev.step (fun k => by rw [impl_sumOf.l0]) ?_
    refine Ev.pos (by omega) (Ev.pos (by omega) (Ev.pos (by omega) ?_))
    rw [rd_lt l i hlt, w64 (x := s + l[i]) (by omega) (by omega), w64 (by omega) (by omega), show (i : Int) + 1 = ((i + 1 : Nat) : Int) from by omega, drop_cons' l i hlt, List.sum_cons]
    exact Ev.eq (ih (i + 1) (s + l[i]) (by omega) (by omega) (by omega) (by omega)) (by omega)
theorem sumOf (l : List Int) (hl : l.length ≤ 1048576) (hb : ∀ x ∈ l, -10000000 ≤ x ∧ x ≤ 10000000) : Ev (fun k => impl_sumOf.f k l) l.sum := by
  unfold impl_sumOf.f
  exact Ev.eq (sumOf_l0 l hl (fun i h => hb _ (List.getElem_mem h)) _ 0 0 rfl (by omega) (by omega) (by omega)) (by simp)
theorem sum_bd (l : List Int) (B : Int) (hb : ∀ x ∈ l, -B ≤ x ∧ x ≤ B) : -(B * (l.length : Int)) ≤ l.sum ∧ l.sum ≤ B * (l.length : Int) := by
  induction l with
  | nil => simp
  | cons x xs ih =>
    have h1 := ih (fun y hy => hb y (List.mem_cons_of_mem _ hy))
    have h2 := hb x (List.mem_cons_self ..)
    rw [List.sum_cons, List.length_cons, Int.natCast_add, Int.mul_add]
    simp only [Int.natCast_one, Int.mul_one]
    omega
end Go.Proofs.Ytdhdifoenladpaa.Pure

/- Means and anomalies: the reference's and the program's come to one. -/
namespace Go.Proofs.Ytdhdifoenladpaa.Pure
open Go.RowKit Go.Proofs.Ytdhdifoenladpaa.P Go.Proofs.YtdhdifoenladpaaW.PrintWords Go.Proofs.YtdhdifoenladpaaW.PrintLast

theorem known_bd {l : List Int} (hs : seriesB l = true) (xs : List Int) (hx : ∀ x ∈ xs, x ∈ l) : ∀ x ∈ known xs, -9000 ≤ x ∧ x ≤ 9000 := by
  intro x h
  obtain ⟨h1, h2⟩ := mem_known.1 h
  exact cell_bd' (series_cell hs x (hx x h1)) h2
theorem known_sum_bd {l : List Int} (hs : seriesB l = true) (xs : List Int) (hx : ∀ x ∈ xs, x ∈ l) (hl : xs.length ≤ 60) : -540000 ≤ (known xs).sum ∧ (known xs).sum ≤ 540000 := by
  have h := sum_bd (known xs) 9000 (known_bd hs xs hx)
  have h2 := known_le xs
  omega

/-- The mean of the values of some days, as a fraction. -/
def meanF (xs : List Int) : Int × Int × Bool := if known xs = [] then (0, 0, false) else ((lowest (known xs).sum (known xs).length).1, (lowest (known xs).sum (known xs).length).2, true)

theorem seriesMean (l : List Int) (hl : l.length ≤ 1048576) (a b : Int) : ∃ r, Ev (fun k => spec_SeriesMean.f k l a b) r ∧ Ev (fun k => impl_SeriesMean.f k l a b) r ∧
    ((r = (0, 0, false) ∧ ¬ (seriesB l = true ∧ 0 ≤ a ∧ a ≤ b ∧ b < l.length)) ∨ (seriesB l = true ∧ 0 ≤ a ∧ a ≤ b ∧ b < l.length ∧ r = meanF ((l.take (b.toNat + 1)).drop a.toNat))) := by
  unfold spec_SeriesMean.f impl_SeriesMean.f
  have hsj : Ev (fun k => spec_SeriesMean.j0 k l a b true) (0, 0, false) := by
    refine Ev.step (fun k => by rw [spec_SeriesMean.j0]) ?_
    exact Ev.pos rfl (Ev.now _)
  have hij : Ev (fun k => impl_SeriesMean.j0 k l a b true) (0, 0, false) := by
    refine Ev.step (fun k => by rw [impl_SeriesMean.j0]) ?_
    exact Ev.pos rfl (Ev.now _)
  have hdA := l24Day l hl a
  have hdB := l24Day l hl b
  by_cases hs : seriesB l = true
  · have h60 := series_60 hs
    have hw : wrap64 ((l.length : Int) - 1) = (l.length : Int) - 1 := w64 (by omega) (by omega)
    rw [hw]
    by_cases hA : 0 ≤ a ∧ a < l.length
    · by_cases hB : a ≤ b ∧ b < l.length
      · obtain ⟨i, rfl⟩ : ∃ i : Nat, a = i := ⟨a.toNat, by omega⟩
        obtain ⟨j, rfl⟩ : ∃ j : Nat, b = j := ⟨b.toNat, by omega⟩
        have hsub : ∀ x ∈ (l.take (j + 1)).drop i, x ∈ l := fun x hx => List.mem_of_mem_take (List.mem_of_mem_drop hx)
        have hlen : ((l.take (j + 1)).drop i).length ≤ 60 := by simp; omega
        have hsum := known_sum_bd hs _ hsub hlen
        have hkl := known_le ((l.take (j + 1)).drop i)
        refine ⟨meanF ((l.take (j + 1)).drop i), ?_, ?_, .inr ⟨hs, by omega, hB.1, by omega, rfl⟩⟩
        · refine Ev.bind hdA (Ev.pos (by rw [hs]; simp; omega) (Ev.bind hdB (Ev.pos (by rw [hs]; simp; omega) ?_)))
          refine Ev.step (fun k => by rw [spec_SeriesMean.j0]) ?_
          refine Ev.neg (by simp; omega) (Ev.bind (l24Sum l hs i (j : Int) (j + 1) (by omega) (by omega) (fun m hm => by omega) (by omega)) ?_)
          unfold meanF
          by_cases hk : known ((l.take (j + 1)).drop i) = []
          · rw [if_pos hk, hk]
            exact Ev.pos rfl (Ev.now _)
          · rw [if_neg hk]
            have := List.length_pos_iff.2 hk
            exact Ev.neg (by simp only; omega) (Ev.bind (reduce_ev _ _ (by omega) (by omega) (by omega) (by omega)) (Ev.now _))
        · refine Ev.bindc (show impl_IsValidSeries.f l = some (seriesB l) from rfl) (Ev.pos hs (Ev.bindc (within_f _ _ _) (Ev.pos (by simp; omega) (Ev.bindc (within_f _ _ _) ?_))))
          refine Ev.step (fun k => by rw [impl_SeriesMean.j0]) ?_
          refine Ev.neg (by simp; omega) (Ev.pos (by omega) ?_)
          rw [w64 (x := (j : Int) + 1) (by omega) (by omega)]
          refine Ev.pos (by omega) (Ev.pos (by omega) ?_)
          rw [show ((j : Int) + 1).toNat = j + 1 from by omega, Int.toNat_natCast]
          refine Ev.bindc (known_f _ (by omega)) (Ev.bind (sumOf _ (by omega) (fun x hx => by have := known_bd hs _ hsub x hx; omega)) ?_)
          unfold meanF
          by_cases hk : known ((l.take (j + 1)).drop i) = []
          · rw [if_pos hk, hk]
            exact Ev.bind (fraction_zero _) (Ev.now _)
          · rw [if_neg hk]
            have := List.length_pos_iff.2 hk
            exact Ev.bind (fraction_ev _ _ (by omega) (by omega) (by omega) (by omega)) (Ev.now _)
      · refine ⟨(0, 0, false), ?_, ?_, .inl ⟨rfl, fun h => hB ⟨h.2.2.1, h.2.2.2⟩⟩⟩
        · refine Ev.bind hdA (Ev.pos (by rw [hs]; simp; omega) (Ev.bind hdB (Ev.cases (fun h => ?_) (fun _ => hsj))))
          rw [hs, Bool.true_and] at h
          simp only [Bool.and_eq_true, decide_eq_true_eq] at h
          rw [show decide (a > b) = true from decide_eq_true (by omega)]
          exact hsj
        · refine Ev.bindc (show impl_IsValidSeries.f l = some (seriesB l) from rfl) (Ev.pos hs (Ev.bindc (within_f _ _ _) (Ev.pos (by simp; omega) (Ev.bindc (within_f _ _ _) ?_))))
          rw [show (!(decide (a ≤ b) && decide (b ≤ (l.length : Int) - 1))) = true from by
            simp only [Bool.not_eq_true', Bool.and_eq_false_iff, decide_eq_false_iff_not]; omega]
          exact hij
    · have hA' : ¬ (decide (0 ≤ a) && decide (a ≤ (l.length : Int) - 1)) = true := by
        simp only [Bool.and_eq_true, decide_eq_true_eq]; omega
      refine ⟨(0, 0, false), ?_, ?_, .inl ⟨rfl, fun h => hA ⟨h.2.1, by omega⟩⟩⟩
      · exact Ev.bind hdA (Ev.neg (by rw [hs, Bool.true_and]; exact hA') hsj)
      · exact Ev.bindc (show impl_IsValidSeries.f l = some (seriesB l) from rfl) (Ev.pos hs (Ev.bindc (within_f _ _ _) (Ev.neg hA' hij)))
  · refine ⟨(0, 0, false), Ev.bind hdA (Ev.neg (by rw [Bool.eq_false_iff.mpr hs]; simp) hsj), ?_, .inl ⟨rfl, fun h => hs h.1⟩⟩
    exact Ev.bindc (show impl_IsValidSeries.f l = some (seriesB l) from rfl) (Ev.neg hs hij)

/-- A day's value minus the mean, as a fraction. -/
def anomF (l : List Int) (v : Int) : Int × Int × Bool := ((lowest (v * (known l).length - (known l).sum) (known l).length).1, (lowest (v * (known l).length - (known l).sum) (known l).length).2, true)

theorem anomalyOf (l : List Int) (hl : l.length ≤ 1048576) (a : Int) : ∃ r, Ev (fun k => spec_AnomalyOf.f k l a) r ∧ Ev (fun k => impl_AnomalyOf.f k l a) r ∧
    ((r = (0, 0, false)) ∨ ∃ d : Nat, ∃ hd : d < l.length, seriesB l = true ∧ a = d ∧ l[d] ≠ -9999 ∧ r = anomF l l[d]) ∧ (seriesB l = true → ∀ d : Nat, ∀ hd : d < l.length, a = d → l[d] ≠ -9999 → r = anomF l l[d]) := by
  unfold spec_AnomalyOf.f impl_AnomalyOf.f
  have hsj : Ev (fun k => spec_AnomalyOf.j0 k l a true) (0, 0, false) := by
    refine Ev.step (fun k => by rw [spec_AnomalyOf.j0]) ?_
    exact Ev.pos rfl (Ev.now _)
  have hdA := l24Day l hl a
  by_cases hv : seriesB l = true ∧ 0 ≤ a ∧ a < l.length
  · obtain ⟨hs, h0, hlt⟩ := hv
    have h60 := series_60 hs
    obtain ⟨d, rfl⟩ : ∃ d : Nat, a = d := ⟨a.toNat, by omega⟩
    have hd : d < l.length := by omega
    have hyes := hasDay_yes l hs d hd
    by_cases hm : l[d] = -9999
    · refine ⟨(0, 0, false), ?_, ?_, .inl rfl, fun _ d' hd' e hne => ?_⟩
      · refine Ev.bind hdA (Ev.pos (by rw [hs]; simp; omega) (Ev.pos (by omega) (Ev.pos (by omega) ?_)))
        rw [rd_lt l d hd, hm]
        exact hsj
      · exact Ev.bindc hyes (Ev.neg (by simp [hm]) (Ev.now _))
      · have : d' = d := by omega
        subst this
        exact absurd hm hne
    · have hmem : l[d] ∈ known l := mem_known.2 ⟨List.getElem_mem hd, hm⟩
      have hkpos := List.length_pos_of_mem hmem
      have hkl := known_le l
      have hsum := known_sum_bd hs l (fun _ h => h) h60.2
      have hb := cell_bd' (series_cell hs _ (List.getElem_mem hd)) hm
      have hp : -540000 ≤ l[d] * ((known l).length : Int) ∧ l[d] * ((known l).length : Int) ≤ 540000 := by
        have h1 : (known l).length ≤ 60 := by omega
        generalize (known l).length = n at h1
        generalize l[d] = v at hb
        constructor
        · have := Int.mul_le_mul_of_nonneg_right hb.1 (Int.natCast_nonneg n); omega
        · have := Int.mul_le_mul_of_nonneg_right hb.2 (Int.natCast_nonneg n); omega
      refine ⟨anomF l l[d], ?_, ?_, .inr ⟨d, hd, hs, rfl, hm, rfl⟩, fun _ d' hd' e _ => by
        have : d' = d := by omega
        subst this; rfl⟩
      · refine Ev.bind hdA (Ev.pos (by rw [hs]; simp; omega) (Ev.pos (by omega) (Ev.pos (by omega) ?_)))
        rw [rd_lt l d hd, show (l[d] == -9999) = false from by simpa using hm]
        refine Ev.step (fun k => by rw [spec_AnomalyOf.j0]) ?_
        refine Ev.neg (by simp) (Ev.bind (l24SumAll l hs) (Ev.pos (by omega) (Ev.pos (by omega) ?_)))
        rw [rd_lt l d hd, w64 (x := l[d] * ((known l).length : Int)) (by omega) (by omega), w64 (by simp only; omega) (by simp only; omega)]
        exact Ev.bind (reduce_ev _ _ (by simp only; omega) (by simp only; omega) (by simp only; omega) (by simp only; omega)) (Ev.now _)
      · refine Ev.bindc hyes (Ev.pos (by simpa using hm) (Ev.bindc (known_f l hl) (Ev.pos (by omega) (Ev.pos (by omega) ?_))))
        refine Ev.bind (sumOf _ (by omega) (fun x hx => by have := known_bd hs l (fun _ h => h) x hx; omega)) ?_
        rw [rd_lt l d hd, w64 (x := l[d] * ((known l).length : Int)) (by omega) (by omega), w64 (by omega) (by omega)]
        exact Ev.bind (fraction_ev _ _ (by omega) (by omega) (by omega) (by omega)) (Ev.now _)
  · refine ⟨(0, 0, false), ?_, ?_, .inl rfl, fun hs d hd e _ => absurd ⟨hs, by omega, by omega⟩ hv⟩
    · refine Ev.bind hdA (Ev.neg ?_ hsj)
      simp only [Bool.and_eq_true, decide_eq_true_eq]
      intro h; exact hv ⟨h.1, h.2.1, by omega⟩
    · exact Ev.bindc (hasDay_no l hl a hv) (Ev.neg (by simp) (Ev.now _))
end Go.Proofs.Ytdhdifoenladpaa.Pure

/- Filled gaps: the program's loops are the reference's; what they make of a series. -/
namespace Go.Proofs.Ytdhdifoenladpaa.Pure
open Go.RowKit Go.Proofs.Ytdhdifoenladpaa.P Go.Proofs.YtdhdifoenladpaaW.PrintWords Go.Proofs.YtdhdifoenladpaaW.PrintLast

/-- a / b rounded to the nearest whole number, away from 0 in the middle. -/
def roundI (a b : Int) : Int := if a < 0 then -((-2 * a + b) / (2 * b)) else (2 * a + b) / (2 * b)
theorem round_f (a b : Int) (h1 : -1000000000000 ≤ a) (h2 : a ≤ 1000000000000) (h3 : 0 < b) (h4 : b ≤ 1000000000) : spec_l3Round.f a b = some (roundI a b) := by
  unfold spec_l3Round.f roundI
  rw [w64 (x := 2 * b) (by omega) (by omega)]
  by_cases h : a < 0
  · rw [if_pos h, if_neg (by omega), if_pos h, w64 (x := -2 * a) (by omega) (by omega), w64 (x := -2 * a + b) (by omega) (by omega)]
    rw [Int.tdiv_eq_ediv_of_nonneg (by omega)]
    have hq1 : 0 ≤ (-2 * a + b) / (2 * b) := Int.ediv_nonneg (by omega) (by omega)
    have hq2 : (-2 * a + b) / (2 * b) ≤ -2 * a + b := Int.ediv_le_self _ (by omega)
    rw [w64 (x := (-2 * a + b) / (2 * b)) (by omega) (by omega), w64 (by omega) (by omega)]
  · rw [if_neg h, if_neg (by omega), if_neg h, w64 (x := 2 * a) (by omega) (by omega), w64 (x := 2 * a + b) (by omega) (by omega)]
    rw [Int.tdiv_eq_ediv_of_nonneg (by omega)]
    have hq1 : 0 ≤ (2 * a + b) / (2 * b) := Int.ediv_nonneg (by omega) (by omega)
    have hq2 : (2 * a + b) / (2 * b) ≤ 2 * a + b := Int.ediv_le_self _ (by omega)
    rw [w64 (by omega) (by omega)]
theorem nearest_f (a b : Int) : impl_nearest.f a b = spec_l3Round.f a b := rfl
theorem round_bd (a b M : Int) (hb : 0 < b) (h1 : -(M * b) ≤ a) (h2 : a ≤ M * b) : -M ≤ roundI a b ∧ roundI a b ≤ M := by
  unfold roundI
  have hMb : (M + 1) * (2 * b) = 2 * (M * b) + 2 * b := by rw [Int.add_mul, Int.one_mul, Int.mul_left_comm]
  split
  · have h4 : (-2 * a + b) / (2 * b) < M + 1 := Int.ediv_lt_of_lt_mul (by omega) (by rw [hMb]; omega)
    have h5 : 0 ≤ (-2 * a + b) / (2 * b) := Int.ediv_nonneg (by omega) (by omega)
    omega
  · have h4 : (2 * a + b) / (2 * b) < M + 1 := Int.ediv_lt_of_lt_mul (by omega) (by rw [hMb]; omega)
    have h5 : 0 ≤ (2 * a + b) / (2 * b) := Int.ediv_nonneg (by omega) (by omega)
    omega

theorem fill_same (l : List Int) : ∀ k, (∀ (o : List Int) (t i : Int), impl_FillGaps.l0 k l o t l (l.length : Int) i = spec_FillGaps.l0 k l o t i) ∧
    (∀ (o : List Int) (t i g : Int), 0 ≤ i → i < l.length → impl_FillGaps.l1 k l o t i (rd l i) g l (l.length : Int) i = spec_FillGaps.l1 k l o t i g) := by
  intro k
  induction k with
  | zero => exact ⟨fun _ _ _ => rfl, fun _ _ _ _ _ _ => rfl⟩
  | succ k ih =>
    refine ⟨fun o t i => ?_, fun o t i g hi0 hi1 => ?_⟩
    · rw [impl_FillGaps.l0, spec_FillGaps.l0]
      by_cases h1 : i < (l.length : Int)
      · by_cases h2 : 0 ≤ i
        · simp only [if_pos h1, if_pos h2]
          rw [ih.1, ih.2 _ _ _ _ h2 h1]
        · simp only [if_pos h1, if_neg h2]
      · simp only [if_neg h1]
    · rw [impl_FillGaps.l1, spec_FillGaps.l1]
      by_cases h1 : t ≥ 0
      · rw [if_pos h1]
        by_cases h2 : g < i
        · rw [if_pos h2, if_pos h2, if_pos h1]
          by_cases h3 : t < (l.length : Int)
          · simp only [if_pos (show 0 ≤ t from h1), if_pos h3, if_pos hi0, if_pos hi1, nearest_f]
            congr 1
            funext x
            split <;> try rfl
            split <;> try rfl
            exact ih.2 _ _ _ _ hi0 hi1
          · simp only [if_pos (show 0 ≤ t from h1), if_neg h3]
        · rw [if_neg h2, if_neg h2, ih.1]
      · rw [if_neg h1]
        by_cases h2 : g < i
        · rw [if_pos h2, if_neg h1, ih.1]
        · rw [if_neg h2, ih.1]

/-- The values of l from the first to the last day with one are all there, the others all missing. -/
def Dense (l : List Int) : Prop := ∃ f m : Nat, f ≤ m ∧ m < l.length ∧ (∀ j, j < f → l.getD j 0 = -9999) ∧ (∀ j, f ≤ j → j ≤ m → l.getD j 0 ≠ -9999) ∧ (∀ j, m < j → j < l.length → l.getD j 0 = -9999)
def Filled (l o : List Int) : Prop := o.length = l.length ∧ (∀ j, j < l.length → l.getD j 0 ≠ -9999 → o.getD j 0 = l.getD j 0) ∧ (∀ j, j < l.length → cellB (o.getD j 0) = true) ∧ Dense o

theorem fill_dense (l : List Int) (hl : l.length ≤ 60) (f m : Nat) (hfm : f ≤ m) (hm : m < l.length) (h1 : ∀ j, j < f → l.getD j 0 = -9999) (h2 : ∀ j, f ≤ j → j ≤ m → l.getD j 0 ≠ -9999) (h3 : ∀ j, m < j → j < l.length → l.getD j 0 = -9999) :
    ∀ (d i : Nat) (t : Int), l.length - i = d → i ≤ l.length → (i ≤ f → t = -1) → (f < i → i ≤ m + 1 → t = (i : Int) - 1) → Ev (fun k => spec_FillGaps.l0 k l l t (i : Int)) (l, true) := by
  intro d
  induction d with
  | zero =>
    intro i t hd hi _ _
    refine Ev.step (fun k => by rw [spec_FillGaps.l0]) ?_
    exact Ev.neg (by omega) (Ev.now _)
  | succ d ih =>
    intro i t hd hi ht1 ht2
    have hlt : i < l.length := by omega
    refine Ev.step (fun k => by rw [spec_FillGaps.l0]) ?_
    refine Ev.pos (by omega) (Ev.pos (by omega) ?_)
    rw [rd_nat]
    by_cases hmis : l.getD i 0 = -9999
    · refine Ev.pos hmis ?_
      rw [w64 (by omega) (by omega), show (i : Int) + 1 = ((i + 1 : Nat) : Int) from by omega]
      refine ih (i + 1) t (by omega) (by omega) (fun h => ht1 (by omega)) (fun h h' => ?_)
      exact absurd hmis (h2 i (by omega) (by omega))
    · refine Ev.neg hmis ?_
      have hif : f ≤ i := by
        rcases Nat.lt_or_ge i f with h | h
        · exact absurd (h1 i h) hmis
        · exact h
      have him : i ≤ m := by
        rcases Nat.lt_or_ge m i with h | h
        · exact absurd (h3 i h hlt) hmis
        · exact h
      have nxt : Ev (fun k => spec_FillGaps.l0 k l l (i : Int) (wrap64 ((i : Int) + 1))) (l, true) := by
        rw [w64 (by omega) (by omega), show (i : Int) + 1 = ((i + 1 : Nat) : Int) from by omega]
        exact ih (i + 1) i (by omega) (by omega) (fun h => by omega) (fun _ _ => by omega)
      refine Ev.step (fun k => by rw [spec_FillGaps.l1]) ?_
      by_cases hif' : i = f
      · have ht := ht1 (by omega)
        rw [ht]
        exact Ev.cases (fun _ => Ev.neg (by omega) nxt) (fun _ => nxt)
      · have ht := ht2 (by omega) (by omega)
        refine Ev.neg ?_ nxt
        rw [ht, w64 (by omega) (by omega)]; omega

theorem getD_set (o : List Int) (g j : Nat) (v : Int) (hg : g < o.length) : (o.set g v).getD j 0 = if j = g then v else o.getD j 0 := by
  simp only [List.getD_eq_getElem?_getD]
  by_cases h : j = g
  · subst h; simp [hg]
  · rw [List.getElem?_set_ne (fun e => h e.symm), if_neg h]

theorem fill_some (l : List Int) (hs : ∀ j, j < l.length → cellB (l.getD j 0) = true) (hl : l.length ≤ 60) : ∀ (d i : Nat) (o : List Int) (f m : Nat), l.length - i = d → i ≤ l.length → o.length = l.length → f ≤ m → m < i → l.getD m 0 ≠ -9999 →
    (∀ j, j < f → l.getD j 0 = -9999) → (∀ j, f ≤ j → j ≤ m → o.getD j 0 ≠ -9999 ∧ cellB (o.getD j 0) = true) → (∀ j, j ≤ m → l.getD j 0 ≠ -9999 → o.getD j 0 = l.getD j 0) → (∀ j, j < f → o.getD j 0 = l.getD j 0) → (∀ j, m < j → j < l.length → o.getD j 0 = l.getD j 0) → (∀ j, m < j → j < i → l.getD j 0 = -9999) →
    ∃ r, Ev (fun k => spec_FillGaps.l0 k l o (m : Int) (i : Int)) (r, true) ∧ Filled l r := by
  intro d
  induction d with
  | zero =>
    intro i o f m hd hi ho hfm hmi hlm a1 a2 a3 a4 a5 a6
    refine ⟨o, ?_, ho, ?_, ?_, f, m, hfm, by omega, fun j hj => by rw [a4 j hj, a1 j hj], fun j h h' => (a2 j h h').1, fun j h h' => by rw [a5 j h (by omega), a6 j h (by omega)]⟩
    · refine Ev.step (fun k => by rw [spec_FillGaps.l0]) ?_
      exact Ev.neg (by omega) (Ev.now _)
    · intro j hj hne
      by_cases h : j ≤ m
      · exact a3 j h hne
      · exact a5 j (by omega) hj
    · intro j hj
      by_cases h : j ≤ m
      · by_cases h' : f ≤ j
        · exact (a2 j h' h).2
        · rw [a4 j (by omega)]; exact hs j hj
      · rw [a5 j (by omega) hj]; exact hs j hj
  | succ d ih =>
    intro i o f m hd hi ho hfm hmi hlm a1 a2 a3 a4 a5 a6
    have hlt : i < l.length := by omega
    by_cases hmis : l.getD i 0 = -9999
    · obtain ⟨r, hr, hF⟩ := ih (i + 1) o f m (by omega) (by omega) ho hfm (by omega) hlm a1 a2 a3 a4 a5 (fun j h h' => by
        by_cases e : j = i
        · rw [e]; exact hmis
        · exact a6 j h (by omega))
      refine ⟨r, ?_, hF⟩
      refine Ev.step (fun k => by rw [spec_FillGaps.l0]) ?_
      refine Ev.pos (by omega) (Ev.pos (by omega) ?_)
      rw [rd_nat]
      refine Ev.pos hmis ?_
      rw [w64 (by omega) (by omega), show (i : Int) + 1 = ((i + 1 : Nat) : Int) from by omega]
      exact hr
    · -- the gap from g on
      have inner : ∀ (e g : Nat) (o : List Int), i - g = e → m < g → g ≤ i → o.length = l.length → (∀ j, f ≤ j → j < g → o.getD j 0 ≠ -9999 ∧ cellB (o.getD j 0) = true) → (∀ j, j ≤ m → l.getD j 0 ≠ -9999 → o.getD j 0 = l.getD j 0) → (∀ j, j < f → o.getD j 0 = l.getD j 0) → (∀ j, g ≤ j → j < l.length → o.getD j 0 = l.getD j 0) →
          ∃ r, Ev (fun k => spec_FillGaps.l1 k l o (m : Int) (i : Int) (g : Int)) (r, true) ∧ Filled l r := by
        intro e
        induction e with
        | zero =>
          intro g o he hmg hgi ho b1 b2 b3 b4
          have hgi' : g = i := by omega
          subst hgi'
          obtain ⟨r, hr, hF⟩ := ih (g + 1) o f g (by omega) (by omega) ho (by omega) (by omega) hmis a1 (fun j h h' => by
              by_cases e : j = g
              · rw [e, b4 g (Nat.le_refl _) hlt]; exact ⟨hmis, hs g hlt⟩
              · exact b1 j h (by omega)) (fun j h hne => by
              by_cases e : j ≤ m
              · exact b2 j e hne
              · by_cases e' : j = g
                · rw [e', b4 g (Nat.le_refl _) hlt]
                · exact absurd (a6 j (by omega) (by omega)) hne) b3 (fun j h h' => b4 j (by omega) h') (fun j h h' => by omega)
          refine ⟨r, ?_, hF⟩
          refine Ev.step (fun k => by rw [spec_FillGaps.l1]) ?_
          refine Ev.neg (by omega) ?_
          rw [w64 (by omega) (by omega), show (g : Int) + 1 = ((g + 1 : Nat) : Int) from by omega]
          exact hr
        | succ e ihe =>
          intro g o he hmg hgi ho b1 b2 b3 b4
          have hc1 := cell_bd' (hs m (by omega)) hlm
          have hc2 := cell_bd' (hs i hlt) hmis
          -- the value on the line
          have hA1 : -(9000 * ((i : Int) - m)) ≤ l.getD m 0 * ((i : Int) - g) + l.getD i 0 * ((g : Int) - m) := by
            have p1 := Int.mul_le_mul_of_nonneg_right hc1.1 (show (0 : Int) ≤ (i : Int) - g by omega)
            have p2 := Int.mul_le_mul_of_nonneg_right hc2.1 (show (0 : Int) ≤ (g : Int) - m by omega)
            omega
          have hA2 : l.getD m 0 * ((i : Int) - g) + l.getD i 0 * ((g : Int) - m) ≤ 9000 * ((i : Int) - m) := by
            have p1 := Int.mul_le_mul_of_nonneg_right hc1.2 (show (0 : Int) ≤ (i : Int) - g by omega)
            have p2 := Int.mul_le_mul_of_nonneg_right hc2.2 (show (0 : Int) ≤ (g : Int) - m by omega)
            omega
          have q1 : -9000 * ((i : Int) - g) ≤ l.getD m 0 * ((i : Int) - g) := Int.mul_le_mul_of_nonneg_right hc1.1 (show (0 : Int) ≤ (i : Int) - g by omega)
          have q2 : l.getD m 0 * ((i : Int) - g) ≤ 9000 * ((i : Int) - g) := Int.mul_le_mul_of_nonneg_right hc1.2 (show (0 : Int) ≤ (i : Int) - g by omega)
          have q3 : -9000 * ((g : Int) - m) ≤ l.getD i 0 * ((g : Int) - m) := Int.mul_le_mul_of_nonneg_right hc2.1 (show (0 : Int) ≤ (g : Int) - m by omega)
          have q4 : l.getD i 0 * ((g : Int) - m) ≤ 9000 * ((g : Int) - m) := Int.mul_le_mul_of_nonneg_right hc2.2 (show (0 : Int) ≤ (g : Int) - m by omega)
          have hv := round_bd _ ((i : Int) - m) 9000 (by omega) hA1 hA2
          have hcell : cellB (roundI (l.getD m 0 * ((i : Int) - g) + l.getD i 0 * ((g : Int) - m)) ((i : Int) - m)) = true := by
            unfold cellB; simp only [Bool.or_eq_true, Bool.and_eq_true, decide_eq_true_eq]; right; exact hv
          have hrf := round_f (l.getD m 0 * ((i : Int) - g) + l.getD i 0 * ((g : Int) - m)) ((i : Int) - m) (by omega) (by omega) (by omega) (by omega)
          have hgo : g < o.length := by omega
          obtain ⟨r, hr, hF⟩ := ihe (g + 1) (o.set g (roundI (l.getD m 0 * ((i : Int) - g) + l.getD i 0 * ((g : Int) - m)) ((i : Int) - m))) (by omega) (by omega) (by omega) (by simpa using ho) (fun j h h' => by
              rw [getD_set _ _ _ _ hgo]
              split
              · exact ⟨by omega, hcell⟩
              · exact b1 j h (by omega)) (fun j h hne => by rw [getD_set _ _ _ _ hgo, if_neg (by omega)]; exact b2 j h hne) (fun j h => by rw [getD_set _ _ _ _ hgo, if_neg (by omega)]; exact b3 j h) (fun j h h' => by rw [getD_set _ _ _ _ hgo, if_neg (by omega)]; exact b4 j (by omega) h')
          refine ⟨r, ?_, hF⟩
          refine Ev.step (fun k => by rw [spec_FillGaps.l1]) ?_
          refine Ev.pos (by omega) (Ev.pos (by omega) (Ev.pos (by omega) (Ev.pos (by omega) (Ev.pos (by omega) (Ev.pos (by omega) ?_)))))
          rw [rd_nat, rd_nat, w64 (x := (i : Int) - g) (by omega) (by omega), w64 (x := (g : Int) - m) (by omega) (by omega), w64 (x := (i : Int) - m) (by omega) (by omega), w64 (x := l.getD m 0 * ((i : Int) - g)) (by omega) (by omega), w64 (x := l.getD i 0 * ((g : Int) - m)) (by omega) (by omega), w64 (x := l.getD m 0 * ((i : Int) - g) + l.getD i 0 * ((g : Int) - m)) (by omega) (by omega)]
          refine Ev.bindc hrf (Ev.pos (by omega) (Ev.pos (by omega) ?_))
          rw [w64 (by omega) (by omega), show (g : Int) + 1 = ((g + 1 : Nat) : Int) from by omega, Int.toNat_natCast]
          exact hr
      obtain ⟨r, hr, hF⟩ := inner _ (m + 1) o rfl (by omega) (by omega) ho (fun j h h' => a2 j h (by omega)) a3 a4 (fun j h h' => a5 j (by omega) h')
      refine ⟨r, ?_, hF⟩
      refine Ev.step (fun k => by rw [spec_FillGaps.l0]) ?_
      refine Ev.pos (by omega) (Ev.pos (by omega) ?_)
      rw [rd_nat]
      refine Ev.neg hmis ?_
      rw [w64 (by omega) (by omega), show (m : Int) + 1 = ((m + 1 : Nat) : Int) from by omega]
      exact hr

theorem fill_none (l : List Int) (hs : ∀ j, j < l.length → cellB (l.getD j 0) = true) (hl : l.length ≤ 60) : ∀ (d i : Nat), l.length - i = d → i ≤ l.length → (∀ j, j < i → l.getD j 0 = -9999) → (∃ j, i ≤ j ∧ j < l.length ∧ l.getD j 0 ≠ -9999) →
    ∃ r, Ev (fun k => spec_FillGaps.l0 k l l (-1) (i : Int)) (r, true) ∧ Filled l r := by
  intro d
  induction d with
  | zero => intro i hd hi _ ⟨j, h1, h2, _⟩; omega
  | succ d ih =>
    intro i hd hi a ⟨j0, j1, j2, j3⟩
    have hlt : i < l.length := by omega
    by_cases hmis : l.getD i 0 = -9999
    · obtain ⟨r, hr, hF⟩ := ih (i + 1) (by omega) (by omega) (fun j h => by
        by_cases e : j = i
        · rw [e]; exact hmis
        · exact a j (by omega)) ⟨j0, by
          by_cases e : j0 = i
          · rw [e] at j3; exact absurd hmis j3
          · omega, j2, j3⟩
      refine ⟨r, ?_, hF⟩
      refine Ev.step (fun k => by rw [spec_FillGaps.l0]) ?_
      refine Ev.pos (by omega) (Ev.pos (by omega) ?_)
      rw [rd_nat]
      refine Ev.pos hmis ?_
      rw [w64 (by omega) (by omega), show (i : Int) + 1 = ((i + 1 : Nat) : Int) from by omega]
      exact hr
    · obtain ⟨r, hr, hF⟩ := fill_some l hs hl _ (i + 1) l i i rfl (by omega) rfl (Nat.le_refl _) (by omega) hmis a (fun j h h' => by
          have : j = i := by omega
          rw [this]; exact ⟨hmis, hs i hlt⟩) (fun _ _ _ => rfl) (fun _ _ => rfl) (fun _ _ _ => rfl) (fun j h h' => by omega)
      have hr' : Ev (fun k => spec_FillGaps.l0 k l l (i : Int) (wrap64 ((i : Int) + 1))) (r, true) := by
        rw [w64 (by omega) (by omega), show (i : Int) + 1 = ((i + 1 : Nat) : Int) from by omega]
        exact hr
      refine ⟨r, ?_, hF⟩
      refine Ev.step (fun k => by rw [spec_FillGaps.l0]) ?_
      refine Ev.pos (by omega) (Ev.pos (by omega) ?_)
      rw [rd_nat]
      refine Ev.neg hmis ?_
      refine Ev.step (fun k => by rw [spec_FillGaps.l1]) ?_
      exact Ev.cases (fun _ => Ev.neg (by omega) hr') (fun _ => hr')

theorem fill_ev {l : List Int} {r : List Int × Bool} {t : Int} (h : Ev (fun k => spec_FillGaps.l0 k l l t 0) r) : Ev (fun k => impl_FillGaps.l0 k l l t l (l.length : Int) 0) r :=
  h.congr fun k => (fill_same l k).1 l t 0
theorem series_getD {l : List Int} (hs : seriesB l = true) (j : Nat) (hj : j < l.length) : cellB (l.getD j 0) = true := by
  rw [show l.getD j 0 = l[j] from by simp [hj]]; exact series_cell hs _ (List.getElem_mem hj)

/-- Filled gaps: both come to one, and what it is. -/
theorem fillGaps (l : List Int) (hl : l.length ≤ 1048576) : ∃ (r : List Int) (b : Bool), Ev (fun k => spec_FillGaps.f k l) (r, b) ∧ Ev (fun k => impl_FillGaps.f k l) (r, b) ∧ r.length ≤ 1048576 ∧
    ((b = false ∧ r = []) ∨ (b = true ∧ seriesB l = true ∧ Filled l r)) := by
  unfold spec_FillGaps.f impl_FillGaps.f
  by_cases hs : seriesB l = true
  · have h60 := series_60 hs
    have hv : impl_IsValidSeries.f l = some (seriesB l) := rfl
    by_cases hk : known l = []
    · refine ⟨[], false, ?_, ?_, by simp, .inl ⟨rfl, rfl⟩⟩
      · exact Ev.bind (l24Good l hl) (Ev.pos hs (Ev.bind (l24SumAll l hs) (Ev.pos (by simp [hk]) (Ev.now _))))
      · refine Ev.bindc hv (Ev.pos hs (Ev.bindc (known_f l hl) ?_))
        rw [hk]
        refine Ev.step (fun k => by rw [impl_FillGaps.j0]) ?_
        exact Ev.pos rfl (Ev.now _)
    · have hpos := List.length_pos_iff.2 hk
      obtain ⟨x, hx⟩ := List.exists_mem_of_ne_nil _ hk
      obtain ⟨hx1, hx2⟩ := mem_known.1 hx
      obtain ⟨j, hj, e⟩ := List.getElem_of_mem hx1
      obtain ⟨r, hr, hF⟩ := fill_none l (series_getD hs) h60.2 _ 0 rfl (by omega) (fun j h => by omega) ⟨j, by omega, hj, by rw [show l.getD j 0 = l[j] from by simp [hj], e]; exact hx2⟩
      refine ⟨r, true, ?_, ?_, by rw [hF.1]; omega, .inr ⟨rfl, hs, hF⟩⟩
      · refine Ev.bind (l24Good l hl) (Ev.pos hs (Ev.bind (l24SumAll l hs) (Ev.neg (by simp only; omega) (Ev.bindc (show spec_l1Own.f l = some l from ?_) hr))))
        unfold spec_l1Own.f
        simp only [Option.bind_some, List.length_nil, List.nil_append]
        rw [if_pos (by omega)]
      · refine Ev.bindc hv (Ev.pos hs (Ev.bindc (known_f l hl) ?_))
        refine Ev.step (fun k => by rw [impl_FillGaps.j0]) ?_
        refine Ev.neg (by simpa using hk) (Ev.bindc (show slices_Clone_int_int.f l = some l by unfold slices_Clone_int_int.f; rw [if_pos (by omega)]) (fill_ev hr))
  · refine ⟨[], false, Ev.bind (l24Good l hl) (Ev.neg hs (Ev.now _)), ?_, by simp, .inl ⟨rfl, rfl⟩⟩
    refine Ev.bindc (show impl_IsValidSeries.f l = some (seriesB l) from rfl) (Ev.neg hs ?_)
    refine Ev.step (fun k => by rw [impl_FillGaps.j0]) ?_
    exact Ev.pos rfl (Ev.now _)
end Go.Proofs.Ytdhdifoenladpaa.Pure

/- The means of ten days each. -/
namespace Go.Proofs.Ytdhdifoenladpaa.Pure
open Go.RowKit Go.Proofs.Ytdhdifoenladpaa.P Go.Proofs.YtdhdifoenladpaaW.PrintWords Go.Proofs.YtdhdifoenladpaaW.PrintLast
set_option linter.unusedVariables false

def roundT (c : List Int) : Int := if known c = [] then -9999 else roundI (known c).sum ((known c).length : Int)
def tensT (l : List Int) : List Int := (parts10 l).map roundT
theorem tensT_len (l : List Int) : (tensT l).length = (l.length + 9) / 10 := by simp [tensT, parts10]
theorem part_sub (l : List Int) (j : Nat) : ∀ x ∈ partN l j, x ∈ l := fun x hx => List.mem_of_mem_drop (List.mem_of_mem_take hx)
theorem part_len (l : List Int) (j : Nat) : (partN l j).length ≤ 10 := by unfold partN; rw [List.length_take]; omega
theorem part_ev {l : List Int} (hs : seriesB l = true) (j : Nat) : Ev (fun k => partM k (partN l j)) (roundT (partN l j)) := by
  have hp := part_len l j
  have hk := known_le (partN l j)
  unfold partM roundT
  by_cases h : known (partN l j) = []
  · rw [if_pos h]; exact Ev.pos h (Ev.now _)
  · rw [if_neg h]
    refine Ev.neg h ?_
    have hpos := List.length_pos_iff.2 h
    have hb := known_sum_bd hs (partN l j) (part_sub l j) (by omega)
    unfold impl_meanOf.f
    refine Ev.bind (sumOf _ (by omega) (fun x hx => by have := known_bd hs _ (part_sub l j) x hx; omega)) ?_
    exact Ev.bindc (by rw [nearest_f]; exact round_f _ _ (by omega) (by omega) (by omega) (by omega)) (Ev.now _)
theorem tensM_ev {l : List Int} (hs : seriesB l = true) : ∀ js : List Nat, Ev (fun k => tensM k (js.map (partN l))) ((js.map (partN l)).map roundT)
  | [] => Ev.now _
  | j :: js => by
    simp only [List.map_cons, tensM]
    exact Ev.bind (part_ev hs j) (Ev.bind (tensM_ev hs js) (Ev.now _))
theorem tens_impl (l : List Int) : Ev (fun k => impl_TenDayMeans.f k l) (if seriesB l = true then (tensT l, true) else ([], false)) := by
  unfold impl_TenDayMeans.f
  refine Ev.cases (fun h => ?_) (fun h => ?_)
  · rw [if_pos h]
    exact Ev.bind (tensM_ev h (List.range ((l.length + 9) / 10))) (Ev.now _)
  · rw [if_neg h]; exact Ev.now _
theorem part_eq (l : List Int) (j : Nat) : (l.take (min (10 * j + 10) l.length)).drop (10 * j) = partN l j := by
  unfold partN
  rw [List.drop_take]
  by_cases h : 10 * j + 10 ≤ l.length
  · rw [Nat.min_eq_left h, show 10 * j + 10 - 10 * j = 10 by omega]
  · rw [Nat.min_eq_right (by omega), List.take_of_length_le (by simp), List.take_of_length_le (by simp; omega)]
theorem tensS_l0 (l : List Int) (hs : seriesB l = true) : ∀ (d j : Nat), (l.length + 9) / 10 - j = d → j ≤ (l.length + 9) / 10 →
    Ev (fun k => spec_TenDayMeans.l0 k l (((List.range j).map (partN l)).map roundT) ((10 * j : Nat) : Int)) (tensT l, true) := by
  have h60 := series_60 hs
  intro d
  induction d with
  | zero =>
    intro j hd hj
    obtain rfl : j = (l.length + 9) / 10 := by omega
    refine Ev.step (fun k => by rw [spec_TenDayMeans.l0]) ?_
    exact Ev.neg (by omega) (Ev.now _)
  | succ d ih =>
    intro j hd hj
    have hlt : 10 * j < l.length := by omega
    have hih := ih (j + 1) (by omega) (by omega)
    rw [List.range_succ, List.map_append, List.map_append] at hih
    have hsum := l24Sum l hs (10 * j) (((10 * j : Nat) : Int) + 9) (min (10 * j + 10) l.length) (by omega) (by omega) (fun i hi => by omega) (by omega)
    rw [part_eq] at hsum
    have hlen : (((List.range j).map (partN l)).map roundT).length = j := by simp
    refine Ev.step (fun k => by rw [spec_TenDayMeans.l0]) ?_
    rw [w64 (x := ((10 * j : Nat) : Int) + 9) (by omega) (by omega), w64 (x := ((10 * j : Nat) : Int) + 10) (by omega) (by omega), show ((10 * j : Nat) : Int) + 10 = ((10 * (j + 1) : Nat) : Int) by omega]
    refine Ev.pos (by omega) (Ev.bind hsum ?_)
    have hp := part_len l j
    have hk := known_le (partN l j)
    by_cases h : known (partN l j) = []
    · have e : roundT (partN l j) = -9999 := by unfold roundT; rw [if_pos h]
      refine Ev.pos (by rw [h]; rfl) (Ev.pos (by omega) ?_)
      have := hih
      simp only [List.map_cons, List.map_nil, e] at this
      exact this
    · have e : roundT (partN l j) = roundI (known (partN l j)).sum ((known (partN l j)).length : Int) := by unfold roundT; rw [if_neg h]
      have hpos := List.length_pos_iff.2 h
      have hb := known_sum_bd hs (partN l j) (part_sub l j) (by omega)
      refine Ev.neg (by simp only; omega) (Ev.bindc (round_f _ _ (by simp only; omega) (by simp only; omega) (by simp only; omega) (by simp only; omega)) (Ev.pos (by omega) ?_))
      have := hih
      simp only [List.map_cons, List.map_nil, e] at this
      exact this
theorem tens_spec (l : List Int) (hl : l.length ≤ 1048576) : Ev (fun k => spec_TenDayMeans.f k l) (if seriesB l = true then (tensT l, true) else ([], false)) := by
  unfold spec_TenDayMeans.f
  refine Ev.bindc rfl (Ev.bind (l24Good l hl) (Ev.cases (fun h => ?_) (fun h => ?_)))
  · rw [if_pos h]
    exact tensS_l0 l h _ 0 rfl (by omega)
  · rw [if_neg h]; exact Ev.now _
theorem tenDayMeans (l : List Int) (hl : l.length ≤ 1048576) : ∃ (r : List Int) (b : Bool), Ev (fun k => spec_TenDayMeans.f k l) (r, b) ∧ Ev (fun k => impl_TenDayMeans.f k l) (r, b) ∧ r.length ≤ 1048576 ∧ (b = true → r.length = (l.length + 9) / 10) := by
  have h1 := tens_spec l hl
  have h2 := tens_impl l
  by_cases h : seriesB l = true
  · rw [if_pos h] at h1 h2
    exact ⟨_, _, h1, h2, by rw [tensT_len]; omega, fun _ => tensT_len l⟩
  · rw [if_neg h] at h1 h2
    exact ⟨_, _, h1, h2, by simp, fun h => by cases h⟩
end Go.Proofs.Ytdhdifoenladpaa.Pure

namespace Go.Proofs.Ytdhdifoenladpaa.Pure
open Go.RowKit Go.Proofs.Ytdhdifoenladpaa.P Go.Proofs.YtdhdifoenladpaaW.PrintWords Go.Proofs.YtdhdifoenladpaaW.PrintLast

theorem FnExactTenDayMeans : laws_FnExactTenDayMeans.Pure := by
  intro l0 _ _ _
  apply Ev.rounds
  unfold laws_FnExactTenDayMeans.f
  refine Ev.cases (fun _ => Ev.now _) (fun hl => ?_)
  have hl : l0.length ≤ 1048576 := by omega
  obtain ⟨r, b, hr, hi, hlen, _⟩ := tenDayMeans l0 hl
  have t := toIntS l0 hl
  have e1 := eqIntS r r (by omega)
  have e2 := eqIntS l0 l0 (by omega)
  have m1 := mark r (by omega)
  have m2 := mark l0 (by omega)
  have h1 := held r.length (by omega)
  refine Ev.bind t (Ev.bind hr (Ev.bind t (Ev.bind hi (Ev.bind e1 (Ev.pos (by simp) ?_)))))
  refine Ev.step (fun k => by rw [laws_FnExactTenDayMeans.j0]) ?_
  refine (Ev.neg (by simp) (Ev.bind t (Ev.bind e2 (Ev.pos (by simp) (Ev.bind m2 (Ev.neg (by simp only; omega) (Ev.bind e1 (Ev.pos (by simp) ?_))))))))
  refine Ev.step (fun k => by rw [laws_FnExactTenDayMeans.j1]) ?_
  refine (Ev.neg (by simp) (Ev.bind m1 (Ev.bind h1 (Ev.neg (by omega) (Ev.pos rfl (Ev.bind t (Ev.bind hi (Ev.bind e1 (Ev.pos (by simp) ?_)))))))))
  refine Ev.step (fun k => by rw [laws_FnExactTenDayMeans.j2]) ?_
  exact (Ev.neg (by simp) (Ev.bind h1 (Ev.neg (by omega) (Ev.pos rfl (Ev.now _)))))
end Go.Proofs.Ytdhdifoenladpaa.Pure
