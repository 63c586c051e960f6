/- The program's RaiseSlopes returns what the reference's returns, for all arguments. Conditions: none beyond the given statement's. -/
import Derived.Test.YtdmkbfjipgaloaaPx0
import Derived.Test.YtdmkbfjipgaloaaPx7
import Derived.Test.YtdmkbfjipgaloaaPx4
import Derived.Test.YtdmkbfjipgaloaaPx9
import Derived.Test.YtdmkbfjipgaloaaPx6
import Derived.Test.YtdmkbfjipgaloaaPx10
import Derived.Test.YtdmkbfjipgaloaaPx20
import Derived.Test.YtdmkbfjipgaloaaPx11
import Derived.Test.YtdmkbfjipgaloaaPx13
import Derived.Test.YtdmkbfjipgaloaaPx12
import Derived.Test.YtdmkbfjipgaloaaPx15
import Derived.Test.YtdmkbfjipgaloaaPx36
/- Small laws on "with enough rounds the function answers r" (Ev) and on wrapping sums; used by every plain law of this seat. -/
namespace Go.Proofs.Ytdmkbfjipgaloaa.Pure
open Go.RowKit Go.Proofs.YtdmkbfjipgaloaaW.PrintWords Go.Proofs.YtdmkbfjipgaloaaW.PrintLast

section
variable {α β : Type} {r : α} {f g : Nat → Option α}
theorem Ev.pos {c : Prop} [Decidable c] (h : c) (e : Ev f r) : Ev (fun k => if c then f k else g k) r := e.congr fun _ => if_pos h
theorem Ev.neg {c : Prop} [Decidable c] (h : ¬ c) (e : Ev g r) : Ev (fun k => if c then f k else g k) r := e.congr fun _ => if_neg h
theorem Ev.const {a : Option α} (h : a = some r) : Ev (fun _ => a) r := ⟨0, fun _ _ => h⟩
theorem Ev.bindc {a : Option β} {b : β} {f : Nat → β → Option α} (h : a = some b) (k : Ev (fun n => f n b) r) : Ev (fun n => a.bind (f n)) r := Ev.bind (Ev.const h) k
theorem Ev.eq {r' : α} (h : Ev f r) (e : r = r') : Ev f r' := e ▸ h
theorem Ev.cases {c : Prop} [Decidable c] (h1 : c → Ev f r) (h2 : ¬ c → Ev g r) : Ev (fun k => if c then f k else g k) r := by
  by_cases h : c
  · exact Ev.pos h (h1 h)
  · exact Ev.neg h (h2 h)
/-- Two answers of one function are one. -/
theorem Ev.uniq {r' : α} (h : Ev f r) (h' : Ev f r') : r = r' := by
  obtain ⟨K, hK⟩ := h
  obtain ⟨K', hK'⟩ := h'
  have a := hK (max K K') (Nat.le_max_left _ _)
  have b := hK' (max K K') (Nat.le_max_right _ _)
  rw [a] at b
  exact Option.some.inj b
end

theorem w64 {x : Int} (h1 : -9223372036854775808 ≤ x) (h2 : x ≤ 9223372036854775807) : wrap64 x = x := by unfold wrap64; omega

theorem rd_nat (l : List Int) (i : Nat) : rd l (i : Int) = l.getD i 0 := by simp [rd]
theorem rd_lt (l : List Int) (i : Nat) (h : i < l.length) : rd l (i : Int) = l[i] := by simp [rd, h]
theorem take_succ' {α : Type} (l : List α) (i : Nat) (h : i < l.length) : l.take (i + 1) = l.take i ++ [l[i]] := by
  rw [List.take_succ_eq_append_getElem h]
theorem drop_cons' {α : Type} (l : List α) (i : Nat) (h : i < l.length) : l.drop i = l[i] :: l.drop (i + 1) := List.drop_eq_getElem_cons h
end Go.Proofs.Ytdmkbfjipgaloaa.Pure

/- The laws' own helpers on lists of integers: a copy, an equality, marks and their check. -/
namespace Go.Proofs.Ytdmkbfjipgaloaa.Pure
open Go.RowKit Go.Proofs.Ytdmkbfjipgaloaa.P Go.Proofs.YtdmkbfjipgaloaaW.PrintWords Go.Proofs.YtdmkbfjipgaloaaW.PrintLast

theorem toIntS_l0 (l : List Int) (hl : l.length ≤ 1048576) : ∀ (d i : Nat) (o : List Int), l.length - i = d → i ≤ l.length → o.length = l.length → o.take i = l.take i →
    Ev (fun k => laws_toIntS.l0 k l o (i : Int)) l := by
  intro d
  induction d with
  | zero =>
    intro i o hd hi ho ht
    refine Ev.step (fun k => by rw [laws_toIntS.l0]) ?_
    refine Ev.neg (by omega) (Ev.const ?_)
    have hi' : i = l.length := by omega
    subst hi'
    rw [List.take_of_length_le (by omega), List.take_of_length_le (by omega)] at ht
    rw [ht]
  | succ d ih =>
    intro i o hd hi ho ht
    refine Ev.step (fun k => by rw [laws_toIntS.l0]) ?_
    refine Ev.pos (by omega) (Ev.pos (by omega) (Ev.pos (by omega) ?_))
    rw [w64 (by omega) (by omega), show (i : Int) + 1 = ((i + 1 : Nat) : Int) from by omega]
    refine ih (i + 1) _ (by omega) (by omega) (by simpa using ho) ?_
    rw [rd_lt l i (by omega), Int.toNat_natCast, take_succ' _ _ (by simp; omega), take_succ' l _ (by omega)]
    rw [List.take_set_of_le (Nat.le_refl i), ht]; simp
theorem toIntS (l : List Int) (hl : l.length ≤ 1048576) : Ev (fun k => laws_toIntS.f k l) l := by
  unfold laws_toIntS.f
  refine Ev.pos (by omega) (Ev.pos (by omega) ?_)
  exact toIntS_l0 l hl _ 0 _ rfl (by omega) (by simp) (by simp)

theorem eqIntS_l0 (a b : List Int) (hl : a.length ≤ 4611686018427387904) (hab : a.length = b.length) : ∀ (d i : Nat), a.length - i = d → i ≤ a.length →
    Ev (fun k => laws_eqIntS.l0 k a b (i : Int)) (decide (a.drop i = b.drop i)) := by
  intro d
  induction d with
  | zero =>
    intro i hd hi
    refine Ev.step (fun k => by rw [laws_eqIntS.l0]) ?_
    refine Ev.neg (by omega) (Ev.const ?_)
    rw [List.drop_of_length_le (by omega), List.drop_of_length_le (by omega)]; simp
  | succ d ih =>
    intro i hd hi
    refine Ev.step (fun k => by rw [laws_eqIntS.l0]) ?_
    refine Ev.pos (by omega) (Ev.pos (by omega) (Ev.pos (by omega) ?_))
    rw [w64 (by omega) (by omega), show (i : Int) + 1 = ((i + 1 : Nat) : Int) from by omega, rd_lt a i (by omega), rd_lt b i (by omega), drop_cons' a i (by omega), drop_cons' b i (by omega)]
    refine Ev.cases (fun h => ?_) (fun h => ?_)
    · exact Ev.eq (ih (i + 1) (by omega) (by omega)) (by rw [h]; simp only [List.cons.injEq, true_and])
    · exact Ev.const (by rw [decide_eq_false (fun e => h (List.cons.inj e).1)])
theorem eqIntS (a b : List Int) (hl : a.length ≤ 4611686018427387904) : Ev (fun k => laws_eqIntS.f k a b) (decide (a = b)) := by
  unfold laws_eqIntS.f
  refine Ev.cases (fun h => ?_) (fun h => ?_)
  · exact Ev.eq (eqIntS_l0 a b hl (by omega) _ 0 rfl (by omega)) (by simp)
  · refine Ev.const ?_
    congr 1
    refine (decide_eq_false fun e => h ?_).symm
    rw [e]
end Go.Proofs.Ytdmkbfjipgaloaa.Pure

/- Fields and regions: the program's tests and the reference's are the same. -/
namespace Go.Proofs.Ytdmkbfjipgaloaa.Pure
open Go.RowKit Go.Proofs.Ytdmkbfjipgaloaa.P Go.Proofs.YtdmkbfjipgaloaaW.PrintWords Go.Proofs.YtdmkbfjipgaloaaW.PrintLast

theorem l1In_f (x a b : Int) : spec_l1In.f x a b = some (decide (a ≤ x) && decide (x ≤ b)) := by
  unfold spec_l1In.f
  by_cases h : x ≥ a
  · simp [h]
  · simp [h]
theorem within_f (x a b : Int) : impl_within.f x a b = some (decide (a ≤ x) && decide (x ≤ b)) := by
  unfold impl_within.f
  by_cases h : x ≥ a
  · simp [h]
  · simp [h]
theorem l2Shape_f (a b : Int) : spec_l2Shape.f a b = some (sideB a && sideB b) := by
  unfold spec_l2Shape.f sideB
  rw [l1In_f, l1In_f]
  cases h : (decide (1 ≤ a) && decide (a ≤ 8)) <;> simp
theorem isShape_f (a b : Int) : impl_isShape.f a b = some (sideB a && sideB b) := by
  unfold impl_isShape.f sideB
  rw [within_f, within_f]
  cases h : (decide (1 ≤ a) && decide (a ≤ 8)) <;> simp
theorem l2Value_f (n : Int) : spec_l2Value.f n = some (cellB n) := by
  unfold spec_l2Value.f cellB
  rw [l1In_f]
  by_cases h : n = -9999
  · simp [h]
  · simp [h]
theorem isValidField_f (a b : Int) (l : List Int) : impl_IsValidField.f a b l = some (fieldB a b l) := rfl
theorem fieldB_len {a b : Int} {l : List Int} (h : fieldB a b l = true) : (l.length : Int) = a * b ∧ sideB a = true ∧ sideB b = true ∧ l.all cellB = true ∧ l.length ≤ 64 ∧ 1 ≤ l.length := by
  simp only [fieldB, Bool.and_eq_true] at h
  obtain ⟨⟨h1, h2⟩, h3, h4⟩ := h
  have h5 := side_mul h1 h2
  have h6 : (l.length : Int) = a * b := by simpa using h3
  exact ⟨h6, h1, h2, h4, by omega, by omega⟩

theorem l2Good_l0 (a b : Int) (l : List Int) (hl : l.length ≤ 1048576) : ∀ (d i : Nat), l.length - i = d → i ≤ l.length →
    Ev (fun k => spec_l2Good.l0 k (i : Int) a b l) ((l.drop i).all cellB) := by
  intro d
  induction d with
  | zero =>
    intro i hd hi
    refine Ev.step (fun k => by rw [spec_l2Good.l0]) ?_
    refine Ev.neg (by omega) (Ev.const ?_)
    rw [List.drop_of_length_le (by omega)]; rfl
  | succ d ih =>
    intro i hd hi
    refine Ev.step (fun k => by rw [spec_l2Good.l0]) ?_
    refine Ev.pos (by omega) (Ev.pos (by omega) ?_)
    have e := ih (i + 1) (by omega) (by omega)
    rw [w64 (by omega) (by omega), show (i : Int) + 1 = ((i + 1 : Nat) : Int) from by omega, rd_lt l i (by omega), drop_cons' l i (by omega), List.all_cons]
    refine Ev.bindc (l2Value_f _) ?_
    refine Ev.cases (fun h => ?_) (fun h => ?_)
    · exact Ev.eq e (by rw [h, Bool.true_and])
    · exact Ev.const (by rw [Bool.eq_false_iff.mpr h, Bool.false_and])
theorem l2Good (a b : Int) (l : List Int) (hl : l.length ≤ 1048576) : Ev (fun k => spec_l2Good.f k a b l) (fieldB a b l) := by
  unfold spec_l2Good.f
  refine Ev.bindc (l2Shape_f a b) ?_
  refine Ev.cases (fun h => ?_) (fun h => ?_)
  · simp only [Bool.and_eq_true] at h
    have h5 := side_mul h.1 h.2
    rw [w64 (by omega) (by omega)]
    refine Ev.step (fun k => by rw [spec_l2Good.j0]) ?_
    refine Ev.cases (fun h2 => ?_) (fun h2 => ?_)
    · refine Ev.const ?_
      have : ((l.length : Int) == a * b) = false := by simpa using h2
      simp [fieldB, this]
    · have h3 : ((l.length : Int) == a * b) = true := by simpa using h2
      refine Ev.eq (l2Good_l0 a b l hl _ 0 rfl (by omega)) ?_
      simp [fieldB, h.1, h.2, h3]
  · refine Ev.step (fun k => by rw [spec_l2Good.j0]) ?_
    refine Ev.pos rfl (Ev.const ?_)
    rw [fieldB, Bool.eq_false_iff.mpr h, Bool.false_and]

/-- Each number is less than the next. -/
def adjB : List Int → Bool
  | x :: y :: t => decide (x < y) && adjB (y :: t)
  | _ => true
def inB (lo hi x : Int) : Bool := decide (lo ≤ x) && decide (x ≤ hi)
theorem adjB_drop (l : List Int) (i : Nat) (h : i + 1 < l.length) : adjB (l.drop i) = (decide (l[i] < l[i + 1]) && adjB (l.drop (i + 1))) := by
  rw [drop_cons' l i (by omega), drop_cons' l (i + 1) h, adjB]
theorem adjB_short (l : List Int) (h : l.length ≤ 1) : adjB l = true := by
  match l, h with
  | [], _ => rfl
  | [_], _ => rfl

theorem increasing_l0 (l : List Int) (hl : l.length ≤ 1048576) : ∀ (d i : Nat), l.length - i = d →
    Ev (fun k => impl_increasing.l0 k l ((i + 1 : Nat) : Int)) (adjB (l.drop i)) := by
  intro d
  induction d with
  | zero =>
    intro i hd
    refine Ev.step (fun k => by rw [impl_increasing.l0]) ?_
    refine Ev.neg (by omega) (Ev.const ?_)
    rw [adjB_short _ (by simp; omega)]
  | succ d ih =>
    intro i hd
    refine Ev.step (fun k => by rw [impl_increasing.l0]) ?_
    refine Ev.cases (fun h1 => ?_) (fun h1 => ?_)
    · rw [w64 (by omega) (by omega), show ((i + 1 : Nat) : Int) - 1 = ((i : Nat) : Int) from by omega]
      refine Ev.pos (by omega) (Ev.pos (by omega) (Ev.pos (by omega) ?_))
      rw [w64 (by omega) (by omega), show ((i + 1 : Nat) : Int) + 1 = ((i + 1 + 1 : Nat) : Int) from by omega, rd_lt l i (by omega), rd_lt l (i + 1) (by omega), adjB_drop l i (by omega)]
      refine Ev.cases (fun h => ?_) (fun h => ?_)
      · exact Ev.const (by rw [decide_eq_false (by omega), Bool.false_and])
      · exact Ev.eq (ih (i + 1) (by omega)) (by rw [decide_eq_true (by omega), Bool.true_and])
    · refine Ev.const ?_
      rw [adjB_short _ (by simp; omega)]
theorem allWithin_l0 (l : List Int) (lo hi : Int) (hl : l.length ≤ 1048576) : ∀ (d i : Nat), l.length - i = d → i ≤ l.length →
    Ev (fun k => impl_allWithin.l0 k lo hi l (l.length : Int) (i : Int)) ((l.drop i).all (inB lo hi)) := by
  intro d
  induction d with
  | zero =>
    intro i hd hi'
    refine Ev.step (fun k => by rw [impl_allWithin.l0]) ?_
    refine Ev.neg (by omega) (Ev.const ?_)
    rw [List.drop_of_length_le (by omega)]; rfl
  | succ d ih =>
    intro i hd hi'
    refine Ev.step (fun k => by rw [impl_allWithin.l0]) ?_
    refine Ev.pos (by omega) (Ev.pos (by omega) (Ev.pos (by omega) ?_))
    have e := ih (i + 1) (by omega) (by omega)
    rw [w64 (by omega) (by omega), show (i : Int) + 1 = ((i + 1 : Nat) : Int) from by omega, rd_lt l i (by omega), drop_cons' l i (by omega), List.all_cons]
    refine Ev.bindc (within_f _ _ _) ?_
    refine Ev.cases (fun h => ?_) (fun h => ?_)
    · exact Ev.eq e (by rw [inB, h, Bool.true_and])
    · exact Ev.const (by rw [inB, Bool.eq_false_iff.mpr h, Bool.false_and])
theorem rising_l0 (l : List Int) (lo hi : Int) (hl : l.length ≤ 1048576) : ∀ (d i : Nat), l.length - i = d → i ≤ l.length →
    Ev (fun k => spec_l1Rising.l0 k l lo hi (i : Int)) ((l.drop i).all (inB lo hi) && adjB (l.drop (i - 1))) := by
  intro d
  induction d with
  | zero =>
    intro i hd hi'
    refine Ev.step (fun k => by rw [spec_l1Rising.l0]) ?_
    refine Ev.neg (by omega) (Ev.const ?_)
    rw [List.drop_of_length_le (by omega), adjB_short _ (by simp; omega)]; rfl
  | succ d ih =>
    intro i hd hi'
    refine Ev.step (fun k => by rw [spec_l1Rising.l0]) ?_
    refine Ev.pos (by omega) (Ev.pos (by omega) ?_)
    have e := ih (i + 1) (by omega) (by omega)
    rw [w64 (x := (i : Int) + 1) (by omega) (by omega), show (i : Int) + 1 = ((i + 1 : Nat) : Int) from by omega, rd_lt l i (by omega), drop_cons' l i (by omega), List.all_cons]
    refine Ev.bindc (l1In_f _ _ _) ?_
    refine Ev.cases (fun h => ?_) (fun h => ?_)
    · have h' : inB lo hi l[i] = true := h
      rw [h', Bool.true_and]
      refine Ev.cases (fun h0 => ?_) (fun h0 => ?_)
      · obtain ⟨j, rfl⟩ : ∃ j, i = j + 1 := ⟨i - 1, by omega⟩
        rw [w64 (by omega) (by omega), show ((j + 1 : Nat) : Int) - 1 = ((j : Nat) : Int) from by omega]
        refine Ev.pos (by omega) (Ev.pos (by omega) ?_)
        rw [rd_lt l j (by omega)]
        simp only [Nat.add_sub_cancel] at e ⊢
        rw [adjB_drop l j (by omega)]
        refine Ev.cases (fun h => ?_) (fun h => ?_)
        · exact Ev.const (by rw [decide_eq_false (by omega), Bool.false_and, Bool.and_false])
        · exact Ev.eq e (by rw [decide_eq_true (by omega), Bool.true_and])
      · have : i = 0 := by omega
        subst this
        exact Ev.eq e (by rfl)
    · exact Ev.const (by rw [show inB lo hi l[i] = false from Bool.eq_false_iff.mpr h, Bool.false_and, Bool.false_and])
/-- A region of a shape. -/
def regionB (a b : Int) (l : List Int) : Bool := (sideB a && sideB b) && (l.all (inB 0 (a * b - 1)) && adjB l)
theorem isRegion (a b : Int) (l : List Int) (hl : l.length ≤ 1048576) : Ev (fun k => impl_isRegion.f k a b l) (regionB a b l) := by
  unfold impl_isRegion.f
  refine Ev.bindc (isShape_f a b) ?_
  refine Ev.cases (fun h => ?_) (fun h => ?_)
  · simp only [Bool.and_eq_true] at h
    have h5 := side_mul h.1 h.2
    rw [w64 (x := a * b) (by omega) (by omega), w64 (x := a * b - 1) (by omega) (by omega)]
    refine Ev.bind (increasing_l0 l hl _ 0 rfl) ?_
    refine Ev.cases (fun h2 => ?_) (fun h2 => ?_)
    · refine Ev.bind (allWithin_l0 l 0 (a * b - 1) hl _ 0 rfl (by omega)) (Ev.const ?_)
      rw [List.drop_zero] at h2 ⊢
      simp [regionB, h.1, h.2, h2]
    · rw [List.drop_zero] at h2
      refine Ev.const ?_
      rw [regionB, Bool.eq_false_iff.mpr h2, Bool.and_false, Bool.and_false]
  · exact Ev.const (by rw [regionB, Bool.eq_false_iff.mpr h, Bool.false_and])
theorem l8Region (a b : Int) (l : List Int) (hl : l.length ≤ 1048576) : Ev (fun k => spec_l8Region.f k a b l) (regionB a b l) := by
  unfold spec_l8Region.f
  refine Ev.bindc (l2Shape_f a b) ?_
  refine Ev.cases (fun h => ?_) (fun h => ?_)
  · have h' := h
    simp only [Bool.and_eq_true] at h'
    have h5 := side_mul h'.1 h'.2
    rw [w64 (x := a * b) (by omega) (by omega), w64 (x := a * b - 1) (by omega) (by omega)]
    refine Ev.bind (rising_l0 l 0 (a * b - 1) hl _ 0 rfl (by omega)) (Ev.const ?_)
    rw [regionB, h, Bool.true_and]; rfl
  · exact Ev.const (by rw [regionB, Bool.eq_false_iff.mpr h, Bool.false_and])
/-- What the editing functions ask for first. -/
def askedB (a b : Int) (l r : List Int) : Bool := fieldB a b l && regionB a b r
theorem isRegionOf (a b : Int) (l r : List Int) (_hl : l.length ≤ 1048576) (hr : r.length ≤ 1048576) : Ev (fun k => impl_isRegionOf.f k a b l r) (askedB a b l r) := by
  unfold impl_isRegionOf.f
  refine Ev.bindc (isValidField_f a b l) ?_
  refine Ev.cases (fun h => ?_) (fun h => ?_)
  · exact Ev.bind (isRegion a b r hr) (Ev.const (by rw [askedB, h, Bool.true_and]))
  · exact Ev.const (by rw [askedB, Bool.eq_false_iff.mpr h, Bool.false_and])
theorem l23Asked (a b : Int) (l r : List Int) (hl : l.length ≤ 1048576) (hr : r.length ≤ 1048576) : Ev (fun k => spec_l23Asked.f k a b l r) (askedB a b l r) := by
  unfold spec_l23Asked.f
  refine Ev.bind (l2Good a b l hl) ?_
  refine Ev.cases (fun h => ?_) (fun h => ?_)
  · exact Ev.bind (l8Region a b r hr) (Ev.const (by rw [askedB, h, Bool.true_and]))
  · exact Ev.const (by rw [askedB, Bool.eq_false_iff.mpr h, Bool.false_and])
/-- The cells of a region lie in the field. -/
theorem asked_cells {a b : Int} {l r : List Int} (h : askedB a b l r = true) : fieldB a b l = true ∧ ∀ c ∈ r, 0 ≤ c ∧ c < (l.length : Int) := by
  simp only [askedB, Bool.and_eq_true] at h
  obtain ⟨h1, h2⟩ := h
  refine ⟨h1, fun c hc => ?_⟩
  have h3 := (fieldB_len h1).1
  simp only [regionB, Bool.and_eq_true] at h2
  have h4 := List.all_eq_true.mp h2.2.1 c hc
  simp only [inB, Bool.and_eq_true, decide_eq_true_eq] at h4
  omega
end Go.Proofs.Ytdmkbfjipgaloaa.Pure

/- The laws' marks on a list of integers and their check. -/
namespace Go.Proofs.Ytdmkbfjipgaloaa.Pure
open Go.RowKit Go.Proofs.Ytdmkbfjipgaloaa.P Go.Proofs.YtdmkbfjipgaloaaW.PrintWords Go.Proofs.YtdmkbfjipgaloaaW.PrintLast

/-- The marks a, a + 1, .. -/
def iota (a : Int) : Nat → List Int
  | 0 => []
  | n + 1 => a :: iota (a + 1) n
theorem iota_length : ∀ (n : Nat) (a : Int), (iota a n).length = n
  | 0, _ => rfl
  | n + 1, a => by simp [iota, iota_length n]
theorem iota_get : ∀ (n : Nat) (a : Int) (i : Nat) (h : i < (iota a n).length), (iota a n)[i] = a + i
  | 0, _, i, h => by simp [iota] at h
  | n + 1, a, 0, _ => by simp [iota]
  | n + 1, a, i + 1, h => by
    simp only [iota, List.getElem_cons_succ]
    rw [iota_get n (a + 1) i (by simpa [iota] using h)]; omega
theorem mark_l0 (n : Nat) (a : Int) (ha : 0 ≤ a) (hb : a + n ≤ 4611686018427387904) : ∀ (d i : Nat) (o : List Int), n - i = d → i ≤ n → o.length = n →
    Ev (fun k => laws_markIntS.l0 k o (a + i) (i : Int)) (a + n, o.take i ++ iota (a + i) (n - i)) := by
  intro d
  induction d with
  | zero =>
    intro i o hd hi ho
    refine Ev.step (fun k => by rw [laws_markIntS.l0]) (Ev.neg (by omega) (Ev.const ?_))
    have : i = n := by omega
    subst this
    rw [Nat.sub_self, List.take_of_length_le (by omega)]; simp [iota]
  | succ d ih =>
    intro i o hd hi ho
    refine Ev.step (fun k => by rw [laws_markIntS.l0]) (Ev.pos (by omega) (Ev.pos (by omega) ?_))
    rw [w64 (x := a + i + 1) (by omega) (by omega), w64 (by omega) (by omega), show (i : Int) + 1 = ((i + 1 : Nat) : Int) from by omega, show a + (i : Int) + 1 = a + ((i + 1 : Nat) : Int) from by omega, Int.toNat_natCast]
    refine Ev.eq (ih (i + 1) (o.set i (a + i)) (by omega) (by omega) (by simpa using ho)) ?_
    rw [take_succ' _ _ (by simp; omega), List.take_set_of_le (Nat.le_refl i), show n - i = (n - (i + 1)) + 1 from by omega]
    simp only [iota, List.getElem_set_self, List.append_assoc, List.singleton_append]
    rw [show a + ((i + 1 : Nat) : Int) = a + (i : Int) + 1 from by omega]
theorem mark (l : List Int) (hb : l.length ≤ 2305843009213693952) : Ev (fun k => laws_markIntS.f k l 1) (1 + (l.length : Int), iota 1 l.length) := by
  unfold laws_markIntS.f
  exact Ev.eq (mark_l0 l.length 1 (by omega) (by omega) _ 0 l rfl (by omega) rfl) (by simp)
theorem held_l0 (n : Nat) (a : Int) (ha : 0 ≤ a) (hb : a + n ≤ 4611686018427387904) : ∀ (d i : Nat), n - i = d → i ≤ n →
    Ev (fun k => laws_heldIntS.l0 k (iota a n) (a + i) (i : Int)) (a + n) := by
  intro d
  induction d with
  | zero =>
    intro i hd hi
    refine Ev.step (fun k => by rw [laws_heldIntS.l0]) (Ev.neg (by rw [iota_length]; omega) (Ev.const ?_))
    rw [show i = n from by omega]
  | succ d ih =>
    intro i hd hi
    refine Ev.step (fun k => by rw [laws_heldIntS.l0]) (Ev.pos (by rw [iota_length]; omega) (Ev.pos (by omega) ?_))
    rw [rd_lt _ i (by rw [iota_length]; omega), iota_get]
    refine Ev.pos rfl ?_
    rw [w64 (x := a + i + 1) (by omega) (by omega), w64 (by omega) (by omega), show (i : Int) + 1 = ((i + 1 : Nat) : Int) from by omega, show a + (i : Int) + 1 = a + ((i + 1 : Nat) : Int) from by omega]
    exact ih (i + 1) (by omega) (by omega)
theorem held (n : Nat) (hb : n ≤ 2305843009213693952) : Ev (fun k => laws_heldIntS.f k (iota 1 n) 1) (1 + (n : Int)) := by
  unfold laws_heldIntS.f
  exact Ev.eq (held_l0 n 1 (by omega) (by omega) _ 0 rfl (by omega)) (by simp)
end Go.Proofs.Ytdmkbfjipgaloaa.Pure

/- Edited fields: the program's loop over a region with a function, and the reference's loop with a value; copies; what the laws do to a field. -/
namespace Go.Proofs.Ytdmkbfjipgaloaa.Pure
open Go.RowKit Go.Proofs.Ytdmkbfjipgaloaa.P Go.Proofs.YtdmkbfjipgaloaaW.PrintWords Go.Proofs.YtdmkbfjipgaloaaW.PrintLast

theorem toField (a b : Int) (l : List Int) (hl : l.length ≤ 1048576) : Ev (fun k => laws_toField.f k a b l) (a, b, l) := by
  unfold laws_toField.f
  exact Ev.bind (toIntS l hl) (Ev.const rfl)
theorem eqField_refl (a b : Int) (l : List Int) (hl : l.length ≤ 1048576) : Ev (fun k => laws_eqField.f k a b l a b l) true := by
  unfold laws_eqField.f
  exact Ev.pos rfl (Ev.pos rfl (Ev.bind (Ev.eq (eqIntS l l (by omega)) (by simp)) (Ev.pos rfl (Ev.const rfl))))
theorem szField_f (a b : Int) (l : List Int) (hl : l.length ≤ 9223372036854775807) : ∃ t, laws_szField.f a b l 1048576 = some t ∧ (t < 0 ∨ l.length ≤ 1048576) := by
  unfold laws_szField.f laws_szIntS.f
  rw [w64 (by omega) (by omega)]
  by_cases h : (1048576 : Int) - (l.length : Int) < 0
  · exact ⟨-1, by rw [if_pos h]; rfl, .inl (by omega)⟩
  · rw [if_neg h]
    exact ⟨1048576 - (l.length : Int), by rw [Option.bind_some, if_neg h], .inr (by omega)⟩
theorem markField (a b : Int) (l : List Int) (hb : l.length ≤ 2305843009213693952) : Ev (fun k => laws_markField.f k a b l 1) (1 + (l.length : Int), iota 1 l.length) := by
  unfold laws_markField.f
  exact Ev.bind (mark l hb) (Ev.const rfl)
theorem markAt (l : List Int) (a : Int) (ha : 0 ≤ a) (hb : a + l.length ≤ 4611686018427387904) : Ev (fun k => laws_markIntS.f k l a) (a + (l.length : Int), iota a l.length) := by
  unfold laws_markIntS.f
  have e := mark_l0 l.length a ha hb _ 0 l rfl (by omega) rfl
  rw [show a + ((0 : Nat) : Int) = a from by omega] at e
  exact Ev.eq e (by simp)
theorem heldField (a b : Int) (n : Nat) (hb : n ≤ 1048576) : Ev (fun k => laws_heldField.f k a b (iota 1 n) 1) (1 + (n : Int)) := by
  unfold laws_heldField.f
  exact Ev.bind (held n (by omega)) (Ev.neg (by omega) (Ev.const rfl))

theorem cloneField_f (a b : Int) (l : List Int) (hl : l.length ≤ 1048576) : impl_cloneField.f a b l = some (a, b, l) := by
  unfold impl_cloneField.f slices_Clone_int_int.f
  rw [if_pos (by omega)]; rfl
theorem l2Own_f (a b : Int) (l : List Int) (hl : l.length ≤ 1048576) : spec_l2Own.f a b l = some (a, b, l) := by
  unfold spec_l2Own.f spec_l1Own.f
  simp only [Option.bind_some, List.length_nil, List.nil_append]
  rw [if_pos (by omega)]; rfl
/-- What a check of a made field gives. -/
def checkedT (a b : Int) (l : List Int) : Int × Int × List Int × Bool := if fieldB a b l = true then (a, b, l, true) else (0, 0, [], false)
theorem checkedField_f (a b : Int) (l : List Int) : impl_checkedField.f a b l = some (checkedT a b l) := by
  unfold impl_checkedField.f checkedT
  rw [isValidField_f, Option.bind_some]
  cases fieldB a b l <;> rfl
theorem checkedT_len (a b : Int) (l : List Int) : (checkedT a b l).2.2.1.length ≤ 64 := by
  unfold checkedT
  by_cases h : fieldB a b l = true
  · rw [if_pos h]; exact (fieldB_len h).2.2.2.2.1
  · rw [if_neg h]; simp
/-- The cells of a region set by a function of the cell and the value. -/
def editL (φ : Int → Int → Int) (l : List Int) (r o : List Int) : List Int := r.foldl (fun o c => o.set c.toNat (φ c (rd l c))) o
theorem editL_length (φ : Int → Int → Int) (l : List Int) : ∀ (r o : List Int), (editL φ l r o).length = o.length := by
  intro r
  induction r with
  | nil => intro o; rfl
  | cons c r ih => intro o; rw [editL, List.foldl_cons]; exact (ih _).trans (by simp)
theorem editL_all (φ : Int → Int → Int) (l : List Int) (p : Int → Bool) : ∀ (r o : List Int), (∀ c ∈ r, p (φ c (rd l c)) = true) → o.all p = true → (editL φ l r o).all p = true := by
  intro r
  induction r with
  | nil => intro o _ h; exact h
  | cons c r ih =>
    intro o hr ho
    rw [editL, List.foldl_cons]
    refine ih _ (fun c hc => hr c (List.mem_cons_of_mem _ hc)) ?_
    rw [List.all_eq_true] at ho ⊢
    intro x hx
    rcases List.mem_or_eq_of_mem_set hx with h | h
    · exact ho x h
    · rw [h]; exact hr c List.mem_cons_self
theorem editL_cons (φ : Int → Int → Int) (l : List Int) (c : Int) (r o : List Int) : editL φ l (c :: r) o = editL φ l r (o.set c.toNat (φ c (rd l c))) := rfl

theorem editedField_l0 (F : Int → Int → Option Int) (φ : Int → Int → Int) (r : List Int) (a b : Int) (l : List Int) (hr : r.length ≤ 1048576) (hc : ∀ c ∈ r, 0 ≤ c ∧ c < (l.length : Int)) (hF : ∀ c ∈ r, F c (rd l c) = some (φ c (rd l c))) :
    ∀ (d i : Nat) (o : List Int), r.length - i = d → i ≤ r.length → o.length = l.length → Ev (fun k => impl_editedField.l0 k F r (r.length : Int) (i : Int) a b l a b o) (checkedT a b (editL φ l (r.drop i) o)) := by
  intro d
  induction d with
  | zero =>
    intro i o hd hi ho
    refine Ev.step (fun k => by rw [impl_editedField.l0]) ?_
    refine Ev.neg (by omega) (Ev.bindc (checkedField_f a b o) (Ev.const ?_))
    rw [List.drop_of_length_le (by omega)]; rfl
  | succ d ih =>
    intro i o hd hi ho
    refine Ev.step (fun k => by rw [impl_editedField.l0]) ?_
    rw [rd_lt r i (by omega)]
    have h1 := hc r[i] (List.getElem_mem _)
    refine Ev.pos (by omega) (Ev.pos (by omega) (Ev.pos (by omega) (Ev.pos h1.1 (Ev.pos h1.2 ?_))))
    refine Ev.bindc (hF r[i] (List.getElem_mem _)) ?_
    refine Ev.pos (by omega) ?_
    rw [w64 (by omega) (by omega), show (i : Int) + 1 = ((i + 1 : Nat) : Int) from by omega, drop_cons' r i (by omega), editL_cons]
    exact ih (i + 1) _ (by omega) (by omega) (by simpa using ho)
theorem editedField (F : Int → Int → Option Int) (φ : Int → Int → Int) (r : List Int) (a b : Int) (l : List Int) (hl : l.length ≤ 1048576) (hr : r.length ≤ 1048576) (hc : ∀ c ∈ r, 0 ≤ c ∧ c < (l.length : Int)) (hF : ∀ c ∈ r, F c (rd l c) = some (φ c (rd l c))) :
    Ev (fun k => impl_editedField.f k a b l r F) (checkedT a b (editL φ l r l)) := by
  unfold impl_editedField.f
  exact Ev.bindc (cloneField_f a b l hl) (editedField_l0 F φ r a b l hr hc hF _ 0 l rfl (by omega) rfl)
/-- A field stays valid where each new value is one of a cell. -/
theorem editL_valid (φ : Int → Int → Int) (a b : Int) (l r : List Int) (h : fieldB a b l = true) (hv : ∀ c ∈ r, cellB (φ c (rd l c)) = true) : fieldB a b (editL φ l r l) = true := by
  have h1 := fieldB_len h
  simp only [fieldB, Bool.and_eq_true] at h ⊢
  rw [editL_length]
  exact ⟨h.1, h.2.1, editL_all φ l cellB r l hv h.2.2⟩
end Go.Proofs.Ytdmkbfjipgaloaa.Pure

/- Slopes: full fields, distances, and the double loop of the program and of the reference. -/
namespace Go.Proofs.Ytdmkbfjipgaloaa.Pure
open Go.RowKit Go.Proofs.Ytdmkbfjipgaloaa.P Go.Proofs.YtdmkbfjipgaloaaW.PrintWords Go.Proofs.YtdmkbfjipgaloaaW.PrintLast

theorem contains_l0 (l : List Int) (c : Int) (hl : l.length ≤ 1048576) : ∀ (d i : Nat), l.length - i = d → i ≤ l.length →
    ∃ t, Ev (fun k => slices_Index_int_int.l0 k l c (l.length : Int) (i : Int)) t ∧ decide (t ≥ 0) = (l.drop i).any (fun n => n == c) := by
  intro d
  induction d with
  | zero =>
    intro i hd hi
    refine ⟨-1, Ev.step (fun k => by rw [slices_Index_int_int.l0]) (Ev.neg (by omega) (Ev.const rfl)), ?_⟩
    rw [List.drop_of_length_le (by omega)]; rfl
  | succ d ih =>
    intro i hd hi
    obtain ⟨t, e, ht⟩ := ih (i + 1) (by omega) (by omega)
    rw [drop_cons' l i (by omega), List.any_cons]
    by_cases h : c = l[i]
    · refine ⟨(i : Int), Ev.step (fun k => by rw [slices_Index_int_int.l0]) (Ev.pos (by omega) (Ev.pos (by omega) (Ev.pos (by omega) (Ev.pos (by rw [rd_lt l i (by omega)]; exact h) (Ev.const rfl))))), ?_⟩
      rw [decide_eq_true (by omega), show (l[i] == c) = true by simpa using h.symm, Bool.true_or]
    · refine ⟨t, Ev.step (fun k => by rw [slices_Index_int_int.l0]) (Ev.pos (by omega) (Ev.pos (by omega) (Ev.pos (by omega) (Ev.neg (by rw [rd_lt l i (by omega)]; exact h) ?_)))), ?_⟩
      · rw [w64 (by omega) (by omega), show (i : Int) + 1 = ((i + 1 : Nat) : Int) from by omega]; exact e
      · rw [ht, show (l[i] == c) = false by simpa using fun e => h e.symm, Bool.false_or]
def fullB (a b : Int) (l : List Int) : Bool := fieldB a b l && !l.any (fun n => n == -9999)
theorem isFull (a b : Int) (l : List Int) (hl : l.length ≤ 1048576) : Ev (fun k => impl_isFull.f k a b l) (fullB a b l) := by
  unfold impl_isFull.f
  refine Ev.bindc (isValidField_f a b l) ?_
  refine Ev.cases (fun h => ?_) (fun h => ?_)
  · obtain ⟨t, e, ht⟩ := contains_l0 l (-9999) hl _ 0 rfl (by omega)
    refine Ev.eq (Ev.bind (a := decide (t ≥ 0)) (r := !decide (t ≥ 0)) ?_ (Ev.const rfl)) ?_
    · unfold slices_Contains_int_int.f slices_Index_int_int.f
      exact Ev.bind e (Ev.const rfl)
    · rw [ht, fullB, h, List.drop_zero, Bool.true_and]
  · exact Ev.const (by rw [fullB, Bool.eq_false_iff.mpr h, Bool.false_and])
theorem l7Full_l0 (a b : Int) (l : List Int) (hl : l.length ≤ 1048576) : ∀ (d i : Nat), l.length - i = d → i ≤ l.length →
    Ev (fun k => spec_l7Full.l0 k (i : Int) a b l) (fieldB a b l && !(l.drop i).any (fun n => n == -9999)) := by
  intro d
  induction d with
  | zero =>
    intro i hd hi
    refine Ev.step (fun k => by rw [spec_l7Full.l0]) ?_
    refine Ev.neg (by omega) (Ev.bind (l2Good a b l hl) (Ev.const ?_))
    rw [List.drop_of_length_le (by omega)]; simp
  | succ d ih =>
    intro i hd hi
    refine Ev.step (fun k => by rw [spec_l7Full.l0]) ?_
    refine Ev.pos (by omega) (Ev.pos (by omega) ?_)
    rw [w64 (by omega) (by omega), show (i : Int) + 1 = ((i + 1 : Nat) : Int) from by omega, rd_lt l i (by omega), drop_cons' l i (by omega), List.any_cons]
    refine Ev.cases (fun h => ?_) (fun h => ?_)
    · exact Ev.const (by rw [show (l[i] == -9999) = true by simpa using h, Bool.true_or]; simp)
    · exact Ev.eq (ih (i + 1) (by omega) (by omega)) (by rw [show (l[i] == -9999) = false by simpa using h, Bool.false_or])
theorem l7Full (a b : Int) (l : List Int) (hl : l.length ≤ 1048576) : Ev (fun k => spec_l7Full.f k a b l) (fullB a b l) := by
  unfold spec_l7Full.f
  exact Ev.eq (l7Full_l0 a b l hl _ 0 rfl (by omega)) (by rw [List.drop_zero]; rfl)
theorem l23Slope_f (v : Int) : spec_l23Slope.f v = some (inB 0 1000 v) := by unfold spec_l23Slope.f; rw [l1In_f]; rfl
theorem isSlope_f (v : Int) : impl_isSlope.f v = some (inB 0 1000 v) := by unfold impl_isSlope.f; rw [within_f]; rfl
def absI (x : Int) : Int := if x < 0 then -x else x
theorem absOf_f (x : Int) (h1 : -1000 ≤ x) (h2 : x ≤ 1000) : impl_absOf.f x = some (absI x) := by
  unfold impl_absOf.f absI
  rw [w64 (by omega) (by omega)]
  by_cases h : x < 0
  · rw [if_pos h, if_pos h]
  · rw [if_neg h, if_neg h]
theorem l11Abs_f (x : Int) (h1 : -1000 ≤ x) (h2 : x ≤ 1000) : spec_l11Abs.f x = some (absI x) := by
  unfold spec_l11Abs.f spec_l1Most.f absI
  rw [w64 (by omega) (by omega)]
  by_cases h : x < 0
  · rw [if_neg (by omega), if_pos h]; rfl
  · rw [if_neg h]
    by_cases h3 : x > -x
    · rw [if_pos h3]; rfl
    · rw [if_neg h3, show -x = x by omega]; rfl
theorem absI_bound {x n : Int} (h1 : -n ≤ x) (h2 : x ≤ n) : 0 ≤ absI x ∧ absI x ≤ n := by unfold absI; split <;> omega
/-- The distance of two cells of a field of width w. -/
def distI (w i k : Int) : Int := absI (Int.tmod i w - Int.tmod k w) + absI (Int.tdiv i w - Int.tdiv k w)
theorem cell_div (w i : Int) (hw : 1 ≤ w ∧ w ≤ 8) (hi : 0 ≤ i ∧ i ≤ 64) : 0 ≤ Int.tmod i w ∧ Int.tmod i w ≤ 7 ∧ 0 ≤ Int.tdiv i w ∧ Int.tdiv i w ≤ 64 := by
  have h1 := Int.tmod_nonneg w hi.1
  have h2 := Int.tmod_lt_of_pos i (show 0 < w by omega)
  have h3 := Int.tdiv_nonneg hi.1 (show 0 ≤ w by omega)
  have h4 := Int.tdiv_le_self w hi.1
  omega
theorem distI_bound (w i k : Int) (hw : 1 ≤ w ∧ w ≤ 8) (hi : 0 ≤ i ∧ i ≤ 64) (hk : 0 ≤ k ∧ k ≤ 64) : 0 ≤ distI w i k ∧ distI w i k ≤ 200 := by
  have a := cell_div w i hw hi
  have b := cell_div w k hw hk
  have c := absI_bound (x := Int.tmod i w - Int.tmod k w) (n := 64) (by omega) (by omega)
  have d := absI_bound (x := Int.tdiv i w - Int.tdiv k w) (n := 64) (by omega) (by omega)
  unfold distI; omega
theorem distance_f (w i k : Int) (hw : 1 ≤ w ∧ w ≤ 8) (hi : 0 ≤ i ∧ i ≤ 64) (hk : 0 ≤ k ∧ k ≤ 64) : spec_l23Distance.f w i k = some (distI w i k) := by
  have a := cell_div w i hw hi
  have b := cell_div w k hw hk
  have e := distI_bound w i k hw hi hk
  unfold spec_l23Distance.f
  rw [if_neg (by omega), w64 (x := Int.tdiv i w) (by omega) (by omega), w64 (x := Int.tdiv k w) (by omega) (by omega), w64 (x := Int.tmod i w - Int.tmod k w) (by omega) (by omega), w64 (x := Int.tdiv i w - Int.tdiv k w) (by omega) (by omega), l11Abs_f _ (by omega) (by omega), l11Abs_f _ (by omega) (by omega)]
  simp only [Option.bind_some]
  unfold distI at e ⊢
  rw [w64 (by omega) (by omega)]
theorem mulb {v d : Int} (hv : 0 ≤ v ∧ v ≤ 1000) (hd : 0 ≤ d ∧ d ≤ 200) : 0 ≤ v * d ∧ v * d ≤ 200000 := by
  have h1 := Int.mul_nonneg hv.1 hd.1
  have h2 := Int.mul_le_mul hv.2 hd.2 hd.1 (by omega)
  omega
/-- The better of two. -/
def bestI (up : Bool) (v best n d : Int) : Int := if up then (if best < n + v * d then best else n + v * d) else (if best > n - v * d then best else n - v * d)
theorem bestI_bound (up : Bool) {v best n d : Int} (hv : 0 ≤ v ∧ v ≤ 1000) (hd : 0 ≤ d ∧ d ≤ 200) (hb : -9000 ≤ best ∧ best ≤ 9000) (hn : -9000 ≤ n ∧ n ≤ 9000) : -9000 ≤ bestI up v best n d ∧ bestI up v best n d ≤ 9000 := by
  have := mulb hv hd
  cases up <;> simp only [bestI, if_true, Bool.false_eq_true, if_false] <;> split <;> omega
/-- Cells in the bounds. -/
def inBounds (o : List Int) : Prop := ∀ n ∈ o, -9000 ≤ n ∧ n ≤ 9000
theorem inBounds_rd {o : List Int} (h : inBounds o) (i : Nat) (hi : i < o.length) : -9000 ≤ rd o (i : Int) ∧ rd o (i : Int) ≤ 9000 := by
  rw [rd_lt o i hi]; exact h _ (List.getElem_mem _)
theorem inBounds_set {o : List Int} (h : inBounds o) (i : Nat) {v : Int} (hv : -9000 ≤ v ∧ v ≤ 9000) : inBounds (o.set i v) := by
  intro n hn
  rcases List.mem_or_eq_of_mem_set hn with h1 | h1
  · exact h n h1
  · rw [h1]; exact hv
/-- Both loops from row i on, and from the pair (i, k) on. -/
theorem sloped (up : Bool) (F : Int → Int → Int → Option Int) (a b v sg : Int) (l : List Int) (hsg : sg = if up then 1 else -1) (hw : 1 ≤ a ∧ a ≤ 8) (hv : 0 ≤ v ∧ v ≤ 1000) (hl : l.length ≤ 64) (hb : inBounds l)
    (hF : ∀ best n d, -9000 ≤ best ∧ best ≤ 9000 → -9000 ≤ n ∧ n ≤ 9000 → 0 ≤ d ∧ d ≤ 200 → F best n d = some (bestI up v best n d)) :
    ∀ (di i : Nat) (o : List Int), l.length - i = di → i ≤ l.length → o.length = l.length → inBounds o →
      ∃ res, res.length = l.length ∧ inBounds res ∧ Ev (fun k => spec_l23Bound.l0 k v sg (i : Int) a b l a b o) (a, b, res) ∧ Ev (fun k => impl_slopedField.l0 k F (l.length : Int) (i : Int) a b l a b o) (checkedT a b res) := by
  intro di
  induction di with
  | zero =>
    intro i o hd hi ho hbo
    refine ⟨o, ho, hbo, ?_, ?_⟩
    · exact Ev.step (fun k => by rw [spec_l23Bound.l0]) (Ev.neg (by omega) (Ev.const rfl))
    · exact Ev.step (fun k => by rw [impl_slopedField.l0]) (Ev.neg (by omega) (Ev.bindc (checkedField_f a b o) (Ev.const rfl)))
  | succ di ih =>
    intro i o hd hi ho hbo
    have inner : ∀ (dk k : Nat) (o : List Int), l.length - k = dk → k ≤ l.length → o.length = l.length → inBounds o →
        ∃ res, res.length = l.length ∧ inBounds res ∧ Ev (fun q => spec_l23Bound.l1 q v sg (i : Int) (k : Int) a b l a b o) (a, b, res) ∧ Ev (fun q => impl_slopedField.l1 q F (i : Int) (l.length : Int) (i : Int) l (l.length : Int) (k : Int) a b l a b o) (checkedT a b res) := by
      intro dk
      induction dk with
      | zero =>
        intro k o hdk hk ho hbo
        obtain ⟨res, h1, h2, h3, h4⟩ := ih (i + 1) o (by omega) (by omega) ho hbo
        refine ⟨res, h1, h2, ?_, ?_⟩
        · refine Ev.step (fun k => by rw [spec_l23Bound.l1]) ?_
          refine (Ev.neg (by omega) ?_)
          rw [w64 (by omega) (by omega), show (i : Int) + 1 = ((i + 1 : Nat) : Int) from by omega]; exact h3
        · refine Ev.step (fun k => by rw [impl_slopedField.l1]) ?_
          refine (Ev.neg (by omega) ?_)
          rw [w64 (by omega) (by omega), show (i : Int) + 1 = ((i + 1 : Nat) : Int) from by omega]; exact h4
      | succ dk ihk =>
        intro k o hdk hk ho hbo
        have hcd := cell_div a i hw (by omega)
        have hck := cell_div a k hw (by omega)
        have hdist := distI_bound a i k hw (by omega) (by omega)
        have ho1 := inBounds_rd hbo i (by omega)
        have hl1 := inBounds_rd hb k (by omega)
        have hm := mulb hv hdist
        have hbb := bestI_bound up hv hdist ho1 hl1
        obtain ⟨res, h1, h2, h3, h4⟩ := ihk (k + 1) (o.set i (bestI up v (rd o i) (rd l k) (distI a i k))) (by omega) (by omega) (by simpa using ho) (inBounds_set hbo i hbb)
        refine ⟨res, h1, h2, ?_, ?_⟩
        · refine Ev.step (fun k => by rw [spec_l23Bound.l1]) ?_
          refine (Ev.pos (by omega) (Ev.pos (by omega) (Ev.bindc (distance_f a i k hw (by omega) (by omega)) ?_)))
          rw [w64 (x := (k : Int) + 1) (by omega) (by omega), show (k : Int) + 1 = ((k + 1 : Nat) : Int) from by omega, Int.toNat_natCast]
          cases up with
          | true =>
            simp only [if_true] at hsg
            subst hsg
            refine Ev.pos (by omega) (Ev.pos (by omega) (Ev.pos (by omega) ?_))
            rw [Int.one_mul, w64 (x := v) (by omega) (by omega), w64 (x := v * distI a i k) (by omega) (by omega), w64 (by omega) (by omega)]
            refine Ev.bindc (b := bestI true v (rd o i) (rd l k) (distI a i k)) ?_ h3
            simp only [spec_l1Least.f, bestI, if_true]; split <;> rfl
          | false =>
            simp only [Bool.false_eq_true, if_false] at hsg
            subst hsg
            refine Ev.neg (by omega) (Ev.pos (by omega) (Ev.pos (by omega) ?_))
            have e : -1 * v * distI a i k = -(v * distI a i k) := by rw [Int.neg_mul, Int.one_mul, Int.neg_mul]
            rw [w64 (x := -1 * v) (by omega) (by omega), e, w64 (x := -(v * distI a i k)) (by omega) (by omega), w64 (by omega) (by omega), ← Int.sub_eq_add_neg]
            refine Ev.bindc (b := bestI false v (rd o i) (rd l k) (distI a i k)) ?_ h3
            simp only [spec_l1Most.f, bestI, Bool.false_eq_true, if_false]; split <;> rfl
        · refine Ev.step (fun k => by rw [impl_slopedField.l1]) ?_
          refine (Ev.pos (by omega) (Ev.pos (by omega) (Ev.pos (by omega) (Ev.neg (by omega) ?_))))
          rw [w64 (x := Int.tdiv i a) (by omega) (by omega), w64 (x := Int.tdiv k a) (by omega) (by omega), w64 (x := Int.tmod i a - Int.tmod k a) (by omega) (by omega), w64 (x := Int.tdiv i a - Int.tdiv k a) (by omega) (by omega)]
          refine Ev.bindc (absOf_f _ (by omega) (by omega)) (Ev.bindc (absOf_f _ (by omega) (by omega)) (Ev.pos (by omega) (Ev.pos (by omega) ?_)))
          have hdd : wrap64 (absI (Int.tmod i a - Int.tmod k a) + absI (Int.tdiv i a - Int.tdiv k a)) = distI a i k := by
            have := hdist
            unfold distI at this ⊢
            exact w64 (by omega) (by omega)
          rw [hdd, w64 (x := (k : Int) + 1) (by omega) (by omega), show (k : Int) + 1 = ((k + 1 : Nat) : Int) from by omega, Int.toNat_natCast]
          exact Ev.bindc (hF _ _ _ ho1 hl1 hdist) h4
    obtain ⟨res, h1, h2, h3, h4⟩ := inner l.length 0 o (by omega) (by omega) ho hbo
    refine ⟨res, h1, h2, ?_, ?_⟩
    · refine Ev.step (fun k => by rw [spec_l23Bound.l0]) ?_
      exact Ev.pos (by omega) h3
    · refine Ev.step (fun k => by rw [impl_slopedField.l0]) ?_
      exact Ev.pos (by omega) h4
theorem full_parts {a b : Int} {l : List Int} (h : fullB a b l = true) : fieldB a b l = true ∧ inBounds l := by
  simp only [fullB, Bool.and_eq_true, Bool.not_eq_true'] at h
  refine ⟨h.1, fun n hn => ?_⟩
  have h1 := List.all_eq_true.mp (fieldB_len h.1).2.2.2.1 n hn
  have h2 : ¬ n = -9999 := by
    intro e
    have := List.any_eq_false.mp h.2 n hn
    exact this (by simpa using e)
  simp only [cellB, Bool.or_eq_true, Bool.and_eq_true, decide_eq_true_eq, beq_iff_eq] at h1
  rcases h1 with h1 | h1
  · exact absurd h1 h2
  · exact h1
theorem bounds_valid {a b : Int} {l o : List Int} (h : fieldB a b l = true) (ho : o.length = l.length) (hb : inBounds o) : fieldB a b o = true := by
  simp only [fieldB, Bool.and_eq_true] at h ⊢
  rw [ho]
  refine ⟨h.1, h.2.1, List.all_eq_true.mpr fun n hn => ?_⟩
  have := hb n hn
  simp [cellB, this.1, this.2]
end Go.Proofs.Ytdmkbfjipgaloaa.Pure

/- RaiseSlopes: the program's and the reference's answer. -/
namespace Go.Proofs.Ytdmkbfjipgaloaa.Pure
open Go.RowKit Go.Proofs.Ytdmkbfjipgaloaa.P Go.Proofs.YtdmkbfjipgaloaaW.PrintWords Go.Proofs.YtdmkbfjipgaloaaW.PrintLast

theorem raiseSlopes (a b : Int) (l : List Int) (v : Int) (hl : l.length ≤ 1048576) : ∃ q : Int × Int × List Int × Bool, q.2.2.1.length ≤ 1048576 ∧ Ev (fun k => spec_RaiseSlopes.f k a b l v) q ∧ Ev (fun k => impl_RaiseSlopes.f k a b l v) q := by
  by_cases h : fullB a b l = true
  · by_cases hv : inB 0 1000 v = true
    · have hp := full_parts h
      have hf := fieldB_len hp.1
      have hw : 1 ≤ a ∧ a ≤ 8 := by simpa [sideB] using hf.2.1
      have hv' : 0 ≤ v ∧ v ≤ 1000 := by simpa [inB] using hv
      obtain ⟨res, h1, h2, h3, h4⟩ := sloped false (fun b n d => some (mx b (wrap64 (n - wrap64 (v * d))))) a b v (-1) l rfl hw hv' hf.2.2.2.2.1 hp.2 (fun best n d hb hn hd => by
        have := mulb hv' hd
        rw [w64 (x := v * d) (by omega) (by omega), w64 (by omega) (by omega)]
        simp only [mx, bestI, Bool.false_eq_true, if_false]; congr 1; split <;> split <;> omega) _ 0 l rfl (by omega) rfl hp.2
      refine ⟨(a, b, res, true), by simp only; omega, ?_, ?_⟩
      · unfold spec_RaiseSlopes.f
        refine Ev.bind (l7Full a b l hl) (Ev.pos h (Ev.bindc (l23Slope_f v) (Ev.pos hv ?_)))
        refine Ev.bind (a := (a, b, res)) ?_ (Ev.const rfl)
        unfold spec_l23Bound.f
        exact Ev.bindc (l2Own_f a b l hl) h3
      · unfold impl_RaiseSlopes.f
        refine Ev.bind (isFull a b l hl) (Ev.pos h (Ev.bindc (isSlope_f v) ?_))
        refine Ev.step (fun k => by rw [impl_RaiseSlopes.j0]) ?_
        refine (Ev.neg (by rw [hv]; simp) (Ev.bindc rfl ?_))
        rw [checkedT, if_pos (bounds_valid hp.1 h1 h2)] at h4
        refine Ev.bind (a := (a, b, res, true)) ?_ (Ev.const rfl)
        unfold impl_slopedField.f
        exact Ev.bindc (cloneField_f a b l hl) h4
    · refine ⟨(0, 0, [], false), by simp, ?_, ?_⟩
      · unfold spec_RaiseSlopes.f
        exact Ev.bind (l7Full a b l hl) (Ev.pos h (Ev.bindc (l23Slope_f v) (Ev.neg hv (Ev.const rfl))))
      · unfold impl_RaiseSlopes.f
        refine Ev.bind (isFull a b l hl) (Ev.pos h (Ev.bindc (isSlope_f v) ?_))
        exact Ev.step (fun k => by rw [impl_RaiseSlopes.j0]) (Ev.pos (by rw [Bool.eq_false_iff.mpr hv]; rfl) (Ev.const rfl))
  · refine ⟨(0, 0, [], false), by simp, ?_, ?_⟩
    · unfold spec_RaiseSlopes.f
      exact Ev.bind (l7Full a b l hl) (Ev.neg h (Ev.const rfl))
    · unfold impl_RaiseSlopes.f
      refine Ev.bind (isFull a b l hl) (Ev.neg h ?_)
      exact Ev.step (fun k => by rw [impl_RaiseSlopes.j0]) (Ev.pos rfl (Ev.const rfl))
end Go.Proofs.Ytdmkbfjipgaloaa.Pure

namespace Go.Proofs.Ytdmkbfjipgaloaa.Pure
open Go.RowKit Go.Proofs.Ytdmkbfjipgaloaa.P Go.Proofs.YtdmkbfjipgaloaaW.PrintWords Go.Proofs.YtdmkbfjipgaloaaW.PrintLast

theorem FnExactRaiseSlopes (a b : Int) (l : List Int) (v : Int) (_ : (Lit.int .i64 a).wf = true) (_ : (Lit.int .i64 b).wf = true) (hm0 : l.length ≤ maxLen) (_ : ∀ x ∈ l, (Lit.int .i64 x).wf = true) (_ : (Lit.int .i64 v).wf = true) : ∃ k, laws_FnExactRaiseSlopes.f k a b l v = some true := by
  have hm : l.length ≤ 9223372036854775807 := Nat.le_trans hm0 (by decide)
  apply Ev.rounds
  unfold laws_FnExactRaiseSlopes.f
  obtain ⟨t, ht, hl⟩ := szField_f a b l hm
  refine Ev.bindc ht (Ev.cases (fun _ => Ev.now _) (fun ht0 => ?_))
  have hl : l.length ≤ 1048576 := by omega
  have tf := toField a b l hl
  obtain ⟨⟨qa, qb, ql, qo⟩, hlen, sp, im⟩ := raiseSlopes a b l v hl
  simp only at hlen
  have e1 := eqField_refl qa qb ql hlen
  have e2 := eqField_refl a b l hl
  have m1 := markField qa qb ql (by omega)
  have m2 := markField a b l (by omega)
  have h1 := heldField qa qb ql.length hlen
  refine Ev.bind tf (Ev.bind sp (Ev.bind tf (Ev.bind im (Ev.bind e1 (Ev.pos rfl ?_)))))
  refine Ev.step (fun k => by rw [laws_FnExactRaiseSlopes.j0]) ?_
  refine Ev.neg (by simp) (Ev.bind tf (Ev.bind e2 (Ev.pos rfl (Ev.bind m2 (Ev.neg (by simp only; omega) (Ev.bind e1 (Ev.pos rfl ?_)))))))
  refine Ev.step (fun k => by rw [laws_FnExactRaiseSlopes.j1]) ?_
  refine (Ev.neg (by simp) (Ev.bind m1 (Ev.bind h1 (Ev.neg (by omega) (Ev.pos rfl (Ev.bind tf (Ev.bind im (Ev.bind e1 (Ev.pos rfl ?_)))))))))
  refine Ev.step (fun k => by rw [laws_FnExactRaiseSlopes.j2]) ?_
  exact (Ev.neg (by simp) (Ev.bind h1 (Ev.neg (by omega) (Ev.pos rfl (Ev.now _)))))
end Go.Proofs.Ytdmkbfjipgaloaa.Pure
