/- The program's AddToRegion returns what the reference's returns, for all arguments. Conditions: none beyond the given statement's. -/
import Derived.Test.YtdmkbfjipgaloaaPx0
import Derived.Test.YtdmkbfjipgaloaaPx7
import Derived.Test.YtdmkbfjipgaloaaPx4
import Derived.Test.YtdmkbfjipgaloaaPx9
import Derived.Test.YtdmkbfjipgaloaaPx6
import Derived.Test.YtdmkbfjipgaloaaPx10
import Derived.Test.YtdmkbfjipgaloaaPx20
import Derived.Test.YtdmkbfjipgaloaaPx25
import Derived.Test.YtdmkbfjipgaloaaPx24
import Derived.Test.YtdmkbfjipgaloaaPx37
/- Small laws on "with enough rounds the function answers r" (Ev) and on wrapping sums; used by every plain law of this seat. -/
namespace Go.Proofs.Ytdmkbfjipgaloaa.Pure
open Go.RowKit Go.Proofs.YtdmkbfjipgaloaaW.PrintWords Go.Proofs.YtdmkbfjipgaloaaW.PrintLast

section
variable {α β : Type} {r : α} {f g : Nat → Option α}
theorem Ev.pos {c : Prop} [Decidable c] (h : c) (e : Ev f r) : Ev (fun k => if c then f k else g k) r := e.congr fun _ => if_pos h
theorem Ev.neg {c : Prop} [Decidable c] (h : ¬ c) (e : Ev g r) : Ev (fun k => if c then f k else g k) r := e.congr fun _ => if_neg h
theorem Ev.const {a : Option α} (h : a = some r) : Ev (fun _ => a) r := ⟨0, fun _ _ => h⟩
theorem Ev.bindc {a : Option β} {b : β} {f : Nat → β → Option α} (h : a = some b) (k : Ev (fun n => f n b) r) : Ev (fun n => a.bind (f n)) r := Ev.bind (Ev.const h) k
theorem Ev.eq {r' : α} (h : Ev f r) (e : r = r') : Ev f r' := e ▸ h
theorem Ev.cases {c : Prop} [Decidable c] (h1 : c → Ev f r) (h2 : ¬ c → Ev g r) : Ev (fun k => if c then f k else g k) r := by
  by_cases h : c
  · exact Ev.pos h (h1 h)
  · exact Ev.neg h (h2 h)
/-- Two answers of one function are one. -/
theorem Ev.uniq {r' : α} (h : Ev f r) (h' : Ev f r') : r = r' := by
  obtain ⟨K, hK⟩ := h
  obtain ⟨K', hK'⟩ := h'
  have a := hK (max K K') (Nat.le_max_left _ _)
  have b := hK' (max K K') (Nat.le_max_right _ _)
  rw [a] at b
  exact Option.some.inj b
end

theorem w64 {x : Int} (h1 : -9223372036854775808 ≤ x) (h2 : x ≤ 9223372036854775807) : wrap64 x = x := by unfold wrap64; omega

theorem rd_nat (l : List Int) (i : Nat) : rd l (i : Int) = l.getD i 0 := by simp [rd]
theorem rd_lt (l : List Int) (i : Nat) (h : i < l.length) : rd l (i : Int) = l[i] := by simp [rd, h]
theorem take_succ' {α : Type} (l : List α) (i : Nat) (h : i < l.length) : l.take (i + 1) = l.take i ++ [l[i]] := by
  rw [List.take_succ_eq_append_getElem h]
theorem drop_cons' {α : Type} (l : List α) (i : Nat) (h : i < l.length) : l.drop i = l[i] :: l.drop (i + 1) := List.drop_eq_getElem_cons h
end Go.Proofs.Ytdmkbfjipgaloaa.Pure

/- The laws' own helpers on lists of integers: a copy, an equality, marks and their check. -/
namespace Go.Proofs.Ytdmkbfjipgaloaa.Pure
open Go.RowKit Go.Proofs.Ytdmkbfjipgaloaa.P Go.Proofs.YtdmkbfjipgaloaaW.PrintWords Go.Proofs.YtdmkbfjipgaloaaW.PrintLast

theorem toIntS_l0 (l : List Int) (hl : l.length ≤ 1048576) : ∀ (d i : Nat) (o : List Int), l.length - i = d → i ≤ l.length → o.length = l.length → o.take i = l.take i →
    Ev (fun k => laws_toIntS.l0 k l o (i : Int)) l := by
  intro d
  induction d with
  | zero =>
    intro i o hd hi ho ht
    refine Ev.step (fun k => by rw [laws_toIntS.l0]) ?_
    refine Ev.neg (by omega) (Ev.const ?_)
    have hi' : i = l.length := by omega
    subst hi'
    rw [List.take_of_length_le (by omega), List.take_of_length_le (by omega)] at ht
    rw [ht]
  | succ d ih =>
    intro i o hd hi ho ht
    refine Ev.step (fun k => by rw [laws_toIntS.l0]) ?_
    refine Ev.pos (by omega) (Ev.pos (by omega) (Ev.pos (by omega) ?_))
    rw [w64 (by omega) (by omega), show (i : Int) + 1 = ((i + 1 : Nat) : Int) from by omega]
    refine ih (i + 1) _ (by omega) (by omega) (by simpa using ho) ?_
    rw [rd_lt l i (by omega), Int.toNat_natCast, take_succ' _ _ (by simp; omega), take_succ' l _ (by omega)]
    rw [List.take_set_of_le (Nat.le_refl i), ht]; simp
theorem toIntS (l : List Int) (hl : l.length ≤ 1048576) : Ev (fun k => laws_toIntS.f k l) l := by
  unfold laws_toIntS.f
  refine Ev.pos (by omega) (Ev.pos (by omega) ?_)
  exact toIntS_l0 l hl _ 0 _ rfl (by omega) (by simp) (by simp)

theorem eqIntS_l0 (a b : List Int) (hl : a.length ≤ 4611686018427387904) (hab : a.length = b.length) : ∀ (d i : Nat), a.length - i = d → i ≤ a.length →
    Ev (fun k => laws_eqIntS.l0 k a b (i : Int)) (decide (a.drop i = b.drop i)) := by
  intro d
  induction d with
  | zero =>
    intro i hd hi
    refine Ev.step (fun k => by rw [laws_eqIntS.l0]) ?_
    refine Ev.neg (by omega) (Ev.const ?_)
    rw [List.drop_of_length_le (by omega), List.drop_of_length_le (by omega)]; simp
  | succ d ih =>
    intro i hd hi
    refine Ev.step (fun k => by rw [laws_eqIntS.l0]) ?_
    refine Ev.pos (by omega) (Ev.pos (by omega) (Ev.pos (by omega) ?_))
    rw [w64 (by omega) (by omega), show (i : Int) + 1 = ((i + 1 : Nat) : Int) from by omega, rd_lt a i (by omega), rd_lt b i (by omega), drop_cons' a i (by omega), drop_cons' b i (by omega)]
    refine Ev.cases (fun h => ?_) (fun h => ?_)
    · exact Ev.eq (ih (i + 1) (by omega) (by omega)) (by rw [h]; simp only [List.cons.injEq, true_and])
    · exact Ev.const (by rw [decide_eq_false (fun e => h (List.cons.inj e).1)])
theorem eqIntS (a b : List Int) (hl : a.length ≤ 4611686018427387904) : Ev (fun k => laws_eqIntS.f k a b) (decide (a = b)) := by
  unfold laws_eqIntS.f
  refine Ev.cases (fun h => ?_) (fun h => ?_)
  · exact Ev.eq (eqIntS_l0 a b hl (by omega) _ 0 rfl (by omega)) (by simp)
  · refine Ev.const ?_
    congr 1
    refine (decide_eq_false fun e => h ?_).symm
    rw [e]
end Go.Proofs.Ytdmkbfjipgaloaa.Pure

/- Fields and regions: the program's tests and the reference's are the same. -/
namespace Go.Proofs.Ytdmkbfjipgaloaa.Pure
open Go.RowKit Go.Proofs.Ytdmkbfjipgaloaa.P Go.Proofs.YtdmkbfjipgaloaaW.PrintWords Go.Proofs.YtdmkbfjipgaloaaW.PrintLast

theorem l1In_f (x a b : Int) : spec_l1In.f x a b = some (decide (a ≤ x) && decide (x ≤ b)) := by
  unfold spec_l1In.f
  by_cases h : x ≥ a
  · simp [h]
  · simp [h]
theorem within_f (x a b : Int) : impl_within.f x a b = some (decide (a ≤ x) && decide (x ≤ b)) := by
  unfold impl_within.f
  by_cases h : x ≥ a
  · simp [h]
  · simp [h]
theorem l2Shape_f (a b : Int) : spec_l2Shape.f a b = some (sideB a && sideB b) := by
  unfold spec_l2Shape.f sideB
  rw [l1In_f, l1In_f]
  cases h : (decide (1 ≤ a) && decide (a ≤ 8)) <;> simp
theorem isShape_f (a b : Int) : impl_isShape.f a b = some (sideB a && sideB b) := by
  unfold impl_isShape.f sideB
  rw [within_f, within_f]
  cases h : (decide (1 ≤ a) && decide (a ≤ 8)) <;> simp
theorem l2Value_f (n : Int) : spec_l2Value.f n = some (cellB n) := by
  unfold spec_l2Value.f cellB
  rw [l1In_f]
  by_cases h : n = -9999
  · simp [h]
  · simp [h]
theorem isValidField_f (a b : Int) (l : List Int) : impl_IsValidField.f a b l = some (fieldB a b l) := rfl
theorem fieldB_len {a b : Int} {l : List Int} (h : fieldB a b l = true) : (l.length : Int) = a * b ∧ sideB a = true ∧ sideB b = true ∧ l.all cellB = true ∧ l.length ≤ 64 ∧ 1 ≤ l.length := by
  simp only [fieldB, Bool.and_eq_true] at h
  obtain ⟨⟨h1, h2⟩, h3, h4⟩ := h
  have h5 := side_mul h1 h2
  have h6 : (l.length : Int) = a * b := by simpa using h3
  exact ⟨h6, h1, h2, h4, by omega, by omega⟩

theorem l2Good_l0 (a b : Int) (l : List Int) (hl : l.length ≤ 1048576) : ∀ (d i : Nat), l.length - i = d → i ≤ l.length →
    Ev (fun k => spec_l2Good.l0 k (i : Int) a b l) ((l.drop i).all cellB) := by
  intro d
  induction d with
  | zero =>
    intro i hd hi
    refine Ev.step (fun k => by rw [spec_l2Good.l0]) ?_
    refine Ev.neg (by omega) (Ev.const ?_)
    rw [List.drop_of_length_le (by omega)]; rfl
  | succ d ih =>
    intro i hd hi
    refine Ev.step (fun k => by rw [spec_l2Good.l0]) ?_
    refine Ev.pos (by omega) (Ev.pos (by omega) ?_)
    have e := ih (i + 1) (by omega) (by omega)
    rw [w64 (by omega) (by omega), show (i : Int) + 1 = ((i + 1 : Nat) : Int) from by omega, rd_lt l i (by omega), drop_cons' l i (by omega), List.all_cons]
    refine Ev.bindc (l2Value_f _) ?_
    refine Ev.cases (fun h => ?_) (fun h => ?_)
    · exact Ev.eq e (by rw [h, Bool.true_and])
    · exact Ev.const (by rw [Bool.eq_false_iff.mpr h, Bool.false_and])
theorem l2Good (a b : Int) (l : List Int) (hl : l.length ≤ 1048576) : Ev (fun k => spec_l2Good.f k a b l) (fieldB a b l) := by
  unfold spec_l2Good.f
  refine Ev.bindc (l2Shape_f a b) ?_
  refine Ev.cases (fun h => ?_) (fun h => ?_)
  · simp only [Bool.and_eq_true] at h
    have h5 := side_mul h.1 h.2
    rw [w64 (by omega) (by omega)]
    refine Ev.step (fun k => by rw [spec_l2Good.j0]) ?_
    refine Ev.cases (fun h2 => ?_) (fun h2 => ?_)
    · refine Ev.const ?_
      have : ((l.length : Int) == a * b) = false := by simpa using h2
      simp [fieldB, this]
    · have h3 : ((l.length : Int) == a * b) = true := by simpa using h2
      refine Ev.eq (l2Good_l0 a b l hl _ 0 rfl (by omega)) ?_
      simp [fieldB, h.1, h.2, h3]
  · refine Ev.step (fun k => by rw [spec_l2Good.j0]) ?_
    refine Ev.pos rfl (Ev.const ?_)
    rw [fieldB, Bool.eq_false_iff.mpr h, Bool.false_and]

/-- Each number is less than the next. -/
def adjB : List Int → Bool
  | x :: y :: t => decide (x < y) && adjB (y :: t)
  | _ => true
def inB (lo hi x : Int) : Bool := decide (lo ≤ x) && decide (x ≤ hi)
theorem adjB_drop (l : List Int) (i : Nat) (h : i + 1 < l.length) : adjB (l.drop i) = (decide (l[i] < l[i + 1]) && adjB (l.drop (i + 1))) := by
  rw [drop_cons' l i (by omega), drop_cons' l (i + 1) h, adjB]
theorem adjB_short (l : List Int) (h : l.length ≤ 1) : adjB l = true := by
  match l, h with
  | [], _ => rfl
  | [_], _ => rfl

theorem increasing_l0 (l : List Int) (hl : l.length ≤ 1048576) : ∀ (d i : Nat), l.length - i = d →
    Ev (fun k => impl_increasing.l0 k l ((i + 1 : Nat) : Int)) (adjB (l.drop i)) := by
  intro d
  induction d with
  | zero =>
    intro i hd
    refine Ev.step (fun k => by rw [impl_increasing.l0]) ?_
    refine Ev.neg (by omega) (Ev.const ?_)
    rw [adjB_short _ (by simp; omega)]
  | succ d ih =>
    intro i hd
    refine Ev.step (fun k => by rw [impl_increasing.l0]) ?_
    refine Ev.cases (fun h1 => ?_) (fun h1 => ?_)
    · rw [w64 (by omega) (by omega), show ((i + 1 : Nat) : Int) - 1 = ((i : Nat) : Int) from by omega]
      refine Ev.pos (by omega) (Ev.pos (by omega) (Ev.pos (by omega) ?_))
      rw [w64 (by omega) (by omega), show ((i + 1 : Nat) : Int) + 1 = ((i + 1 + 1 : Nat) : Int) from by omega, rd_lt l i (by omega), rd_lt l (i + 1) (by omega), adjB_drop l i (by omega)]
      refine Ev.cases (fun h => ?_) (fun h => ?_)
      · exact Ev.const (by rw [decide_eq_false (by omega), Bool.false_and])
      · exact Ev.eq (ih (i + 1) (by omega)) (by rw [decide_eq_true (by omega), Bool.true_and])
    · refine Ev.const ?_
      rw [adjB_short _ (by simp; omega)]
theorem allWithin_l0 (l : List Int) (lo hi : Int) (hl : l.length ≤ 1048576) : ∀ (d i : Nat), l.length - i = d → i ≤ l.length →
    Ev (fun k => impl_allWithin.l0 k lo hi l (l.length : Int) (i : Int)) ((l.drop i).all (inB lo hi)) := by
  intro d
  induction d with
  | zero =>
    intro i hd hi'
    refine Ev.step (fun k => by rw [impl_allWithin.l0]) ?_
    refine Ev.neg (by omega) (Ev.const ?_)
    rw [List.drop_of_length_le (by omega)]; rfl
  | succ d ih =>
    intro i hd hi'
    refine Ev.step (fun k => by rw [impl_allWithin.l0]) ?_
    refine Ev.pos (by omega) (Ev.pos (by omega) (Ev.pos (by omega) ?_))
    have e := ih (i + 1) (by omega) (by omega)
    rw [w64 (by omega) (by omega), show (i : Int) + 1 = ((i + 1 : Nat) : Int) from by omega, rd_lt l i (by omega), drop_cons' l i (by omega), List.all_cons]
    refine Ev.bindc (within_f _ _ _) ?_
    refine Ev.cases (fun h => ?_) (fun h => ?_)
    · exact Ev.eq e (by rw [inB, h, Bool.true_and])
    · exact Ev.const (by rw [inB, Bool.eq_false_iff.mpr h, Bool.false_and])
theorem rising_l0 (l : List Int) (lo hi : Int) (hl : l.length ≤ 1048576) : ∀ (d i : Nat), l.length - i = d → i ≤ l.length →
    Ev (fun k => spec_l1Rising.l0 k l lo hi (i : Int)) ((l.drop i).all (inB lo hi) && adjB (l.drop (i - 1))) := by
  intro d
  induction d with
  | zero =>
    intro i hd hi'
    refine Ev.step (fun k => by rw [spec_l1Rising.l0]) ?_
    refine Ev.neg (by omega) (Ev.const ?_)
    rw [List.drop_of_length_le (by omega), adjB_short _ (by simp; omega)]; rfl
  | succ d ih =>
    intro i hd hi'
    refine Ev.step (fun k => by rw [spec_l1Rising.l0]) ?_
    refine Ev.pos (by omega) (Ev.pos (by omega) ?_)
    have e := ih (i + 1) (by omega) (by omega)
    rw [w64 (x := (i : Int) + 1) (by omega) (by omega), show (i : Int) + 1 = ((i + 1 : Nat) : Int) from by omega, rd_lt l i (by omega), drop_cons' l i (by omega), List.all_cons]
    refine Ev.bindc (l1In_f _ _ _) ?_
    refine Ev.cases (fun h => ?_) (fun h => ?_)
    · have h' : inB lo hi l[i] = true := h
      rw [h', Bool.true_and]
      refine Ev.cases (fun h0 => ?_) (fun h0 => ?_)
      · obtain ⟨j, rfl⟩ : ∃ j, i = j + 1 := ⟨i - 1, by omega⟩
        rw [w64 (by omega) (by omega), show ((j + 1 : Nat) : Int) - 1 = ((j : Nat) : Int) from by omega]
        refine Ev.pos (by omega) (Ev.pos (by omega) ?_)
        rw [rd_lt l j (by omega)]
        simp only [Nat.add_sub_cancel] at e ⊢
        rw [adjB_drop l j (by omega)]
        refine Ev.cases (fun h => ?_) (fun h => ?_)
        · exact Ev.const (by rw [decide_eq_false (by omega), Bool.false_and, Bool.and_false])
        · exact Ev.eq e (by rw [decide_eq_true (by omega), Bool.true_and])
      · have : i = 0 := by omega
        subst this
        exact Ev.eq e (by rfl)
    · exact Ev.const (by rw [show inB lo hi l[i] = false from Bool.eq_false_iff.mpr h, Bool.false_and, Bool.false_and])
/-- A region of a shape. -/
def regionB (a b : Int) (l : List Int) : Bool := (sideB a && sideB b) && (l.all (inB 0 (a * b - 1)) && adjB l)
theorem isRegion (a b : Int) (l : List Int) (hl : l.length ≤ 1048576) : Ev (fun k => impl_isRegion.f k a b l) (regionB a b l) := by
  unfold impl_isRegion.f
  refine Ev.bindc (isShape_f a b) ?_
  refine Ev.cases (fun h => ?_) (fun h => ?_)
  · simp only [Bool.and_eq_true] at h
    have h5 := side_mul h.1 h.2
    rw [w64 (x := a * b) (by omega) (by omega), w64 (x := a * b - 1) (by omega) (by omega)]
    refine Ev.bind (increasing_l0 l hl _ 0 rfl) ?_
    refine Ev.cases (fun h2 => ?_) (fun h2 => ?_)
    · refine Ev.bind (allWithin_l0 l 0 (a * b - 1) hl _ 0 rfl (by omega)) (Ev.const ?_)
      rw [List.drop_zero] at h2 ⊢
      simp [regionB, h.1, h.2, h2]
    · rw [List.drop_zero] at h2
      refine Ev.const ?_
      rw [regionB, Bool.eq_false_iff.mpr h2, Bool.and_false, Bool.and_false]
  · exact Ev.const (by rw [regionB, Bool.eq_false_iff.mpr h, Bool.false_and])
theorem l8Region (a b : Int) (l : List Int) (hl : l.length ≤ 1048576) : Ev (fun k => spec_l8Region.f k a b l) (regionB a b l) := by
  unfold spec_l8Region.f
  refine Ev.bindc (l2Shape_f a b) ?_
  refine Ev.cases (fun h => ?_) (fun h => ?_)
  · have h' := h
    simp only [Bool.and_eq_true] at h'
    have h5 := side_mul h'.1 h'.2
    rw [w64 (x := a * b) (by omega) (by omega), w64 (x := a * b - 1) (by omega) (by omega)]
    refine Ev.bind (rising_l0 l 0 (a * b - 1) hl _ 0 rfl (by omega)) (Ev.const ?_)
    rw [regionB, h, Bool.true_and]; rfl
  · exact Ev.const (by rw [regionB, Bool.eq_false_iff.mpr h, Bool.false_and])
/-- What the editing functions ask for first. -/
def askedB (a b : Int) (l r : List Int) : Bool := fieldB a b l && regionB a b r
theorem isRegionOf (a b : Int) (l r : List Int) (_hl : l.length ≤ 1048576) (hr : r.length ≤ 1048576) : Ev (fun k => impl_isRegionOf.f k a b l r) (askedB a b l r) := by
  unfold impl_isRegionOf.f
  refine Ev.bindc (isValidField_f a b l) ?_
  refine Ev.cases (fun h => ?_) (fun h => ?_)
  · exact Ev.bind (isRegion a b r hr) (Ev.const (by rw [askedB, h, Bool.true_and]))
  · exact Ev.const (by rw [askedB, Bool.eq_false_iff.mpr h, Bool.false_and])
theorem l23Asked (a b : Int) (l r : List Int) (hl : l.length ≤ 1048576) (hr : r.length ≤ 1048576) : Ev (fun k => spec_l23Asked.f k a b l r) (askedB a b l r) := by
  unfold spec_l23Asked.f
  refine Ev.bind (l2Good a b l hl) ?_
  refine Ev.cases (fun h => ?_) (fun h => ?_)
  · exact Ev.bind (l8Region a b r hr) (Ev.const (by rw [askedB, h, Bool.true_and]))
  · exact Ev.const (by rw [askedB, Bool.eq_false_iff.mpr h, Bool.false_and])
/-- The cells of a region lie in the field. -/
theorem asked_cells {a b : Int} {l r : List Int} (h : askedB a b l r = true) : fieldB a b l = true ∧ ∀ c ∈ r, 0 ≤ c ∧ c < (l.length : Int) := by
  simp only [askedB, Bool.and_eq_true] at h
  obtain ⟨h1, h2⟩ := h
  refine ⟨h1, fun c hc => ?_⟩
  have h3 := (fieldB_len h1).1
  simp only [regionB, Bool.and_eq_true] at h2
  have h4 := List.all_eq_true.mp h2.2.1 c hc
  simp only [inB, Bool.and_eq_true, decide_eq_true_eq] at h4
  omega
end Go.Proofs.Ytdmkbfjipgaloaa.Pure

/- The laws' marks on a list of integers and their check. -/
namespace Go.Proofs.Ytdmkbfjipgaloaa.Pure
open Go.RowKit Go.Proofs.Ytdmkbfjipgaloaa.P Go.Proofs.YtdmkbfjipgaloaaW.PrintWords Go.Proofs.YtdmkbfjipgaloaaW.PrintLast

/-- The marks a, a + 1, .. -/
def iota (a : Int) : Nat → List Int
  | 0 => []
  | n + 1 => a :: iota (a + 1) n
theorem iota_length : ∀ (n : Nat) (a : Int), (iota a n).length = n
  | 0, _ => rfl
  | n + 1, a => by simp [iota, iota_length n]
theorem iota_get : ∀ (n : Nat) (a : Int) (i : Nat) (h : i < (iota a n).length), (iota a n)[i] = a + i
  | 0, _, i, h => by simp [iota] at h
  | n + 1, a, 0, _ => by simp [iota]
  | n + 1, a, i + 1, h => by
    simp only [iota, List.getElem_cons_succ]
    rw [iota_get n (a + 1) i (by simpa [iota] using h)]; omega
theorem mark_l0 (n : Nat) (a : Int) (ha : 0 ≤ a) (hb : a + n ≤ 4611686018427387904) : ∀ (d i : Nat) (o : List Int), n - i = d → i ≤ n → o.length = n →
    Ev (fun k => laws_markIntS.l0 k o (a + i) (i : Int)) (a + n, o.take i ++ iota (a + i) (n - i)) := by
  intro d
  induction d with
  | zero =>
    intro i o hd hi ho
    refine Ev.step (fun k => by rw [laws_markIntS.l0]) (Ev.neg (by omega) (Ev.const ?_))
    have : i = n := by omega
    subst this
    rw [Nat.sub_self, List.take_of_length_le (by omega)]; simp [iota]
  | succ d ih =>
    intro i o hd hi ho
    refine Ev.step (fun k => by rw [laws_markIntS.l0]) (Ev.pos (by omega) (Ev.pos (by omega) ?_))
    rw [w64 (x := a + i + 1) (by omega) (by omega), w64 (by omega) (by omega), show (i : Int) + 1 = ((i + 1 : Nat) : Int) from by omega, show a + (i : Int) + 1 = a + ((i + 1 : Nat) : Int) from by omega, Int.toNat_natCast]
    refine Ev.eq (ih (i + 1) (o.set i (a + i)) (by omega) (by omega) (by simpa using ho)) ?_
    rw [take_succ' _ _ (by simp; omega), List.take_set_of_le (Nat.le_refl i), show n - i = (n - (i + 1)) + 1 from by omega]
    simp only [iota, List.getElem_set_self, List.append_assoc, List.singleton_append]
    rw [show a + ((i + 1 : Nat) : Int) = a + (i : Int) + 1 from by omega]
theorem mark (l : List Int) (hb : l.length ≤ 2305843009213693952) : Ev (fun k => laws_markIntS.f k l 1) (1 + (l.length : Int), iota 1 l.length) := by
  unfold laws_markIntS.f
  exact Ev.eq (mark_l0 l.length 1 (by omega) (by omega) _ 0 l rfl (by omega) rfl) (by simp)
theorem held_l0 (n : Nat) (a : Int) (ha : 0 ≤ a) (hb : a + n ≤ 4611686018427387904) : ∀ (d i : Nat), n - i = d → i ≤ n →
    Ev (fun k => laws_heldIntS.l0 k (iota a n) (a + i) (i : Int)) (a + n) := by
  intro d
  induction d with
  | zero =>
    intro i hd hi
    refine Ev.step (fun k => by rw [laws_heldIntS.l0]) (Ev.neg (by rw [iota_length]; omega) (Ev.const ?_))
    rw [show i = n from by omega]
  | succ d ih =>
    intro i hd hi
    refine Ev.step (fun k => by rw [laws_heldIntS.l0]) (Ev.pos (by rw [iota_length]; omega) (Ev.pos (by omega) ?_))
    rw [rd_lt _ i (by rw [iota_length]; omega), iota_get]
    refine Ev.pos rfl ?_
    rw [w64 (x := a + i + 1) (by omega) (by omega), w64 (by omega) (by omega), show (i : Int) + 1 = ((i + 1 : Nat) : Int) from by omega, show a + (i : Int) + 1 = a + ((i + 1 : Nat) : Int) from by omega]
    exact ih (i + 1) (by omega) (by omega)
theorem held (n : Nat) (hb : n ≤ 2305843009213693952) : Ev (fun k => laws_heldIntS.f k (iota 1 n) 1) (1 + (n : Int)) := by
  unfold laws_heldIntS.f
  exact Ev.eq (held_l0 n 1 (by omega) (by omega) _ 0 rfl (by omega)) (by simp)
end Go.Proofs.Ytdmkbfjipgaloaa.Pure

/- Edited fields: the program's loop over a region with a function, and the reference's loop with a value; copies; what the laws do to a field. -/
namespace Go.Proofs.Ytdmkbfjipgaloaa.Pure
open Go.RowKit Go.Proofs.Ytdmkbfjipgaloaa.P Go.Proofs.YtdmkbfjipgaloaaW.PrintWords Go.Proofs.YtdmkbfjipgaloaaW.PrintLast

theorem toField (a b : Int) (l : List Int) (hl : l.length ≤ 1048576) : Ev (fun k => laws_toField.f k a b l) (a, b, l) := by
  unfold laws_toField.f
  exact Ev.bind (toIntS l hl) (Ev.const rfl)
theorem eqField_refl (a b : Int) (l : List Int) (hl : l.length ≤ 1048576) : Ev (fun k => laws_eqField.f k a b l a b l) true := by
  unfold laws_eqField.f
  exact Ev.pos rfl (Ev.pos rfl (Ev.bind (Ev.eq (eqIntS l l (by omega)) (by simp)) (Ev.pos rfl (Ev.const rfl))))
theorem szField_f (a b : Int) (l : List Int) (hl : l.length ≤ 9223372036854775807) : ∃ t, laws_szField.f a b l 1048576 = some t ∧ (t < 0 ∨ l.length ≤ 1048576) := by
  unfold laws_szField.f laws_szIntS.f
  rw [w64 (by omega) (by omega)]
  by_cases h : (1048576 : Int) - (l.length : Int) < 0
  · exact ⟨-1, by rw [if_pos h]; rfl, .inl (by omega)⟩
  · rw [if_neg h]
    exact ⟨1048576 - (l.length : Int), by rw [Option.bind_some, if_neg h], .inr (by omega)⟩
theorem markField (a b : Int) (l : List Int) (hb : l.length ≤ 2305843009213693952) : Ev (fun k => laws_markField.f k a b l 1) (1 + (l.length : Int), iota 1 l.length) := by
  unfold laws_markField.f
  exact Ev.bind (mark l hb) (Ev.const rfl)
theorem markAt (l : List Int) (a : Int) (ha : 0 ≤ a) (hb : a + l.length ≤ 4611686018427387904) : Ev (fun k => laws_markIntS.f k l a) (a + (l.length : Int), iota a l.length) := by
  unfold laws_markIntS.f
  have e := mark_l0 l.length a ha hb _ 0 l rfl (by omega) rfl
  rw [show a + ((0 : Nat) : Int) = a from by omega] at e
  exact Ev.eq e (by simp)
theorem heldField (a b : Int) (n : Nat) (hb : n ≤ 1048576) : Ev (fun k => laws_heldField.f k a b (iota 1 n) 1) (1 + (n : Int)) := by
  unfold laws_heldField.f
  exact Ev.bind (held n (by omega)) (Ev.neg (by omega) (Ev.const rfl))

theorem cloneField_f (a b : Int) (l : List Int) (hl : l.length ≤ 1048576) : impl_cloneField.f a b l = some (a, b, l) := by
  unfold impl_cloneField.f slices_Clone_int_int.f
  rw [if_pos (by omega)]; rfl
theorem l2Own_f (a b : Int) (l : List Int) (hl : l.length ≤ 1048576) : spec_l2Own.f a b l = some (a, b, l) := by
  unfold spec_l2Own.f spec_l1Own.f
  simp only [Option.bind_some, List.length_nil, List.nil_append]
  rw [if_pos (by omega)]; rfl
/-- What a check of a made field gives. -/
def checkedT (a b : Int) (l : List Int) : Int × Int × List Int × Bool := if fieldB a b l = true then (a, b, l, true) else (0, 0, [], false)
theorem checkedField_f (a b : Int) (l : List Int) : impl_checkedField.f a b l = some (checkedT a b l) := by
  unfold impl_checkedField.f checkedT
  rw [isValidField_f, Option.bind_some]
  cases fieldB a b l <;> rfl
theorem checkedT_len (a b : Int) (l : List Int) : (checkedT a b l).2.2.1.length ≤ 64 := by
  unfold checkedT
  by_cases h : fieldB a b l = true
  · rw [if_pos h]; exact (fieldB_len h).2.2.2.2.1
  · rw [if_neg h]; simp
/-- The cells of a region set by a function of the cell and the value. -/
def editL (φ : Int → Int → Int) (l : List Int) (r o : List Int) : List Int := r.foldl (fun o c => o.set c.toNat (φ c (rd l c))) o
theorem editL_length (φ : Int → Int → Int) (l : List Int) : ∀ (r o : List Int), (editL φ l r o).length = o.length := by
  intro r
  induction r with
  | nil => intro o; rfl
  | cons c r ih => intro o; rw [editL, List.foldl_cons]; exact (ih _).trans (by simp)
theorem editL_all (φ : Int → Int → Int) (l : List Int) (p : Int → Bool) : ∀ (r o : List Int), (∀ c ∈ r, p (φ c (rd l c)) = true) → o.all p = true → (editL φ l r o).all p = true := by
  intro r
  induction r with
  | nil => intro o _ h; exact h
  | cons c r ih =>
    intro o hr ho
    rw [editL, List.foldl_cons]
    refine ih _ (fun c hc => hr c (List.mem_cons_of_mem _ hc)) ?_
    rw [List.all_eq_true] at ho ⊢
    intro x hx
    rcases List.mem_or_eq_of_mem_set hx with h | h
    · exact ho x h
    · rw [h]; exact hr c List.mem_cons_self
theorem editL_cons (φ : Int → Int → Int) (l : List Int) (c : Int) (r o : List Int) : editL φ l (c :: r) o = editL φ l r (o.set c.toNat (φ c (rd l c))) := rfl

theorem editedField_l0 (F : Int → Int → Option Int) (φ : Int → Int → Int) (r : List Int) (a b : Int) (l : List Int) (hr : r.length ≤ 1048576) (hc : ∀ c ∈ r, 0 ≤ c ∧ c < (l.length : Int)) (hF : ∀ c ∈ r, F c (rd l c) = some (φ c (rd l c))) :
    ∀ (d i : Nat) (o : List Int), r.length - i = d → i ≤ r.length → o.length = l.length → Ev (fun k => impl_editedField.l0 k F r (r.length : Int) (i : Int) a b l a b o) (checkedT a b (editL φ l (r.drop i) o)) := by
  intro d
  induction d with
  | zero =>
    intro i o hd hi ho
    refine Ev.step (fun k => by rw [impl_editedField.l0]) ?_
    refine Ev.neg (by omega) (Ev.bindc (checkedField_f a b o) (Ev.const ?_))
    rw [List.drop_of_length_le (by omega)]; rfl
  | succ d ih =>
    intro i o hd hi ho
    refine Ev.step (fun k => by rw [impl_editedField.l0]) ?_
    rw [rd_lt r i (by omega)]
    have h1 := hc r[i] (List.getElem_mem _)
    refine Ev.pos (by omega) (Ev.pos (by omega) (Ev.pos (by omega) (Ev.pos h1.1 (Ev.pos h1.2 ?_))))
    refine Ev.bindc (hF r[i] (List.getElem_mem _)) ?_
    refine Ev.pos (by omega) ?_
    rw [w64 (by omega) (by omega), show (i : Int) + 1 = ((i + 1 : Nat) : Int) from by omega, drop_cons' r i (by omega), editL_cons]
    exact ih (i + 1) _ (by omega) (by omega) (by simpa using ho)
theorem editedField (F : Int → Int → Option Int) (φ : Int → Int → Int) (r : List Int) (a b : Int) (l : List Int) (hl : l.length ≤ 1048576) (hr : r.length ≤ 1048576) (hc : ∀ c ∈ r, 0 ≤ c ∧ c < (l.length : Int)) (hF : ∀ c ∈ r, F c (rd l c) = some (φ c (rd l c))) :
    Ev (fun k => impl_editedField.f k a b l r F) (checkedT a b (editL φ l r l)) := by
  unfold impl_editedField.f
  exact Ev.bindc (cloneField_f a b l hl) (editedField_l0 F φ r a b l hr hc hF _ 0 l rfl (by omega) rfl)
/-- A field stays valid where each new value is one of a cell. -/
theorem editL_valid (φ : Int → Int → Int) (a b : Int) (l r : List Int) (h : fieldB a b l = true) (hv : ∀ c ∈ r, cellB (φ c (rd l c)) = true) : fieldB a b (editL φ l r l) = true := by
  have h1 := fieldB_len h
  simp only [fieldB, Bool.and_eq_true] at h ⊢
  rw [editL_length]
  exact ⟨h.1, h.2.1, editL_all φ l cellB r l hv h.2.2⟩
end Go.Proofs.Ytdmkbfjipgaloaa.Pure

/- AddToRegion: the program's and the reference's answer. -/
namespace Go.Proofs.Ytdmkbfjipgaloaa.Pure
open Go.RowKit Go.Proofs.Ytdmkbfjipgaloaa.P Go.Proofs.YtdmkbfjipgaloaaW.PrintWords Go.Proofs.YtdmkbfjipgaloaaW.PrintLast

theorem rd_set (o : List Int) (c0 c v : Int) (h0 : 0 ≤ c0) (hc : 0 ≤ c) (hl : c < (o.length : Int)) : rd (o.set c0.toNat v) c = if c = c0 then v else rd o c := by
  simp only [rd, List.getD_eq_getElem?_getD]
  by_cases h : c = c0
  · subst h
    rw [if_pos rfl, List.getElem?_set_self (by omega)]; rfl
  · rw [if_neg h, List.getElem?_set_ne (by omega)]
theorem rd_editL (φ : Int → Int → Int) (l : List Int) : ∀ (r o : List Int), (∀ c ∈ r, 0 ≤ c) → ∀ c, 0 ≤ c → c < (o.length : Int) → rd (editL φ l r o) c = if c ∈ r then φ c (rd l c) else rd o c := by
  intro r
  induction r with
  | nil => intro o _ c _ _; rw [if_neg (by simp)]; rfl
  | cons c0 r ih =>
    intro o hr c hc hl
    rw [editL_cons, ih _ (fun c hc => hr c (List.mem_cons_of_mem _ hc)) c hc (by simpa using hl)]
    by_cases h : c ∈ r
    · rw [if_pos h, if_pos (List.mem_cons_of_mem _ h)]
    · rw [if_neg h, rd_set o c0 c _ (hr c0 List.mem_cons_self) hc hl]
      by_cases h2 : c = c0
      · subst h2; rw [if_pos rfl, if_pos List.mem_cons_self]
      · rw [if_neg h2, if_neg (by simp [h, h2])]
theorem list_set_rd (o : List Int) (c : Int) (hc : 0 ≤ c) (hl : c < (o.length : Int)) : o.set c.toNat (rd o c) = o := by
  have h : c.toNat < o.length := by omega
  have : rd o c = o[c.toNat] := by simp [rd, h]
  rw [this]; simp
/-- What a number of a cell becomes, in the program and in the reference. -/
def addI (v : Int) (_ n : Int) : Int := if n = -9999 then -9999 else (if inB (-9000) 9000 (n + v) = true then n + v else 9001)
def addS (v : Int) (_ n : Int) : Int := if n = -9999 then -9999 else n + v
def addOk (l : List Int) (v : Int) (r : List Int) : Bool := r.all fun c => rd l c == -9999 || inB (-9000) 9000 (rd l c + v)
def addT (a b : Int) (l r : List Int) (v : Int) : Int × Int × List Int × Bool := if (askedB a b l r && inB (-18000) 18000 v) = true then (if addOk l v r = true then checkedT a b (editL (addS v) l r l) else (0, 0, [], false)) else (0, 0, [], false)
theorem addT_len (a b : Int) (l r : List Int) (v : Int) (_hl : l.length ≤ 1048576) : (addT a b l r v).2.2.1.length ≤ 1048576 := by
  unfold addT
  have := checkedT_len a b (editL (addS v) l r l)
  by_cases h : (askedB a b l r && inB (-18000) 18000 v) = true
  · rw [if_pos h]
    by_cases h2 : addOk l v r = true
    · rw [if_pos h2]; omega
    · rw [if_neg h2]; simp
  · rw [if_neg h]; simp
theorem l4Checked (a b : Int) (l : List Int) (ok : Bool) (hl : l.length ≤ 1048576) : Ev (fun k => spec_l4Checked.f k a b l ok) (if ok = true then checkedT a b l else (0, 0, [], false)) := by
  unfold spec_l4Checked.f
  refine Ev.cases (fun h => ?_) (fun h => ?_)
  · rw [if_pos h]
    refine Ev.bind (l2Good a b l hl) ?_
    unfold checkedT
    refine Ev.cases (fun h2 => ?_) (fun h2 => ?_)
    · rw [if_pos h2]; exact Ev.const rfl
    · rw [if_neg h2]; exact Ev.const rfl
  · rw [if_neg h]; exact Ev.const rfl
theorem cell_bounds {n : Int} (h : cellB n = true) : n = -9999 ∨ (-9000 ≤ n ∧ n ≤ 9000) := by
  simp only [cellB, Bool.or_eq_true, Bool.and_eq_true, decide_eq_true_eq, beq_iff_eq] at h; exact h
theorem rd_cell {l : List Int} (h : l.all cellB = true) {c : Int} (hc : 0 ≤ c) (hl : c < (l.length : Int)) : cellB (rd l c) = true := by
  have h1 : c.toNat < l.length := by omega
  have : rd l c = l[c.toNat] := by simp [rd, h1]
  rw [this]; exact List.all_eq_true.mp h _ (List.getElem_mem _)
theorem spec_AddToRegion_l0 (a b : Int) (l r : List Int) (v : Int) (hl : l.length ≤ 1048576) (hr : r.length ≤ 1048576) (hv : -18000 ≤ v ∧ v ≤ 18000) (hcell : l.all cellB = true) (hc : ∀ c ∈ r, 0 ≤ c ∧ c < (l.length : Int)) :
    ∀ (d i : Nat) (ok : Bool) (o : List Int), r.length - i = d → i ≤ r.length → o.length = l.length → (∀ c, 0 ≤ c → c < (l.length : Int) → rd l c = -9999 → rd o c = -9999) →
      Ev (fun k => spec_AddToRegion.l0 k r v ok (i : Int) a b l a b o) (if (ok && addOk l v (r.drop i)) = true then checkedT a b (editL (addS v) l (r.drop i) o) else (0, 0, [], false)) := by
  intro d
  induction d with
  | zero =>
    intro i ok o hd hi ho hm
    refine Ev.step (fun k => by rw [spec_AddToRegion.l0]) ?_
    refine Ev.neg (by omega) (Ev.bind (l4Checked a b o ok (by omega)) (Ev.const ?_))
    rw [List.drop_of_length_le (by omega), show (ok && addOk l v []) = ok by simp [addOk]]
    rfl
  | succ d ih =>
    intro i ok o hd hi ho hm
    refine Ev.step (fun k => by rw [spec_AddToRegion.l0]) ?_
    rw [rd_lt r i (by omega)]
    have h1 := hc r[i] (List.getElem_mem _)
    have h2 := rd_cell hcell h1.1 h1.2
    refine Ev.pos (by omega) (Ev.pos (by omega) (Ev.pos h1.1 (Ev.pos h1.2 ?_)))
    rw [w64 (x := (i : Int) + 1) (by omega) (by omega), show (i : Int) + 1 = ((i + 1 : Nat) : Int) from by omega, drop_cons' r i (by omega), editL_cons]
    have hco : addOk l v (r[i] :: r.drop (i + 1)) = ((rd l r[i] == -9999 || inB (-9000) 9000 (rd l r[i] + v)) && addOk l v (r.drop (i + 1))) := rfl
    rw [hco]
    refine Ev.cases (fun h => ?_) (fun h => ?_)
    · refine Ev.eq (ih (i + 1) ok o (by omega) (by omega) ho hm) ?_
      have h3 : o.set r[i].toNat (addS v r[i] (rd l r[i])) = o := by
        rw [show addS v r[i] (rd l r[i]) = rd o r[i] by rw [addS, if_pos h, hm _ h1.1 h1.2 h]]
        exact list_set_rd o _ h1.1 (by omega)
      rw [h3, show (rd l r[i] == -9999) = true by simpa using h, Bool.true_or, Bool.true_and]
    · have h4 : (-9000 ≤ rd l r[i] ∧ rd l r[i] ≤ 9000) := by rcases cell_bounds h2 with h5 | h5; exact absurd h5 h; exact h5
      rw [w64 (by omega) (by omega)]
      have hs : addS v r[i] (rd l r[i]) = rd l r[i] + v := if_neg h
      rw [hs, show (rd l r[i] == -9999) = false by simpa using h, Bool.false_or]
      have hm' : ∀ c, 0 ≤ c → c < (l.length : Int) → rd l c = -9999 → rd (o.set r[i].toNat (rd l r[i] + v)) c = -9999 := by
        intro c hc0 hcl hcm
        rw [rd_set o _ c _ h1.1 hc0 (by omega), if_neg (fun e => h (by rw [← e]; exact hcm))]
        exact hm c hc0 hcl hcm
      refine Ev.pos (by omega) (Ev.bindc rfl ?_)
      refine Ev.cases (fun h5 => ?_) (fun h5 => ?_)
      · refine Ev.bindc (l1In_f _ _ _) ?_
        refine Ev.eq (ih (i + 1) _ _ (by omega) (by omega) (by simpa using ho) hm') ?_
        rw [h5, Bool.true_and]; rfl
      · refine Ev.eq (ih (i + 1) _ _ (by omega) (by omega) (by simpa using ho) hm') ?_
        rw [Bool.eq_false_iff.mpr h5, Bool.false_and, Bool.false_and]
theorem spec_AddToRegion (a b : Int) (l r : List Int) (v : Int) (hl : l.length ≤ 1048576) (hr : r.length ≤ 1048576) : Ev (fun k => spec_AddToRegion.f k a b l r v) (addT a b l r v) := by
  unfold spec_AddToRegion.f addT
  refine Ev.bind (l23Asked a b l r hl hr) ?_
  refine Ev.cases (fun h => ?_) (fun h => ?_)
  · refine Ev.bindc (l1In_f v (-18000) 18000) ?_
    refine Ev.step (fun k => by rw [spec_AddToRegion.j0]) ?_
    refine Ev.cases (fun h2 => ?_) (fun h2 => ?_)
    · have h3 : inB (-18000) 18000 v = false := by cases hq : inB (-18000) 18000 v with | false => rfl | true => (unfold inB at hq; rw [hq] at h2; exact absurd h2 (by decide))
      exact Ev.const (by rw [h3, Bool.and_false]; rfl)
    · have h3 : inB (-18000) 18000 v = true := by unfold inB; simpa using h2
      have hc := asked_cells h
      have hv : -18000 ≤ v ∧ v ≤ 18000 := by simpa [inB] using h3
      refine Ev.bindc (l2Own_f a b l hl) (Ev.eq (spec_AddToRegion_l0 a b l r v hl hr hv (fieldB_len hc.1).2.2.2.1 hc.2 _ 0 true l rfl (by omega) rfl (fun _ _ _ h => h)) ?_)
      rw [h, h3, Bool.true_and, Bool.true_and, List.drop_zero, if_pos rfl]
  · refine Ev.step (fun k => by rw [spec_AddToRegion.j0]) ?_
    exact Ev.pos rfl (Ev.const (by rw [Bool.eq_false_iff.mpr h, Bool.false_and]; rfl))
theorem checkedCell_f (x : Int) : impl_checkedCell.f x = some (if inB (-9000) 9000 x = true then x else 9001) := by
  unfold impl_checkedCell.f
  rw [within_f, Option.bind_some]
  unfold inB
  cases (decide (-9000 ≤ x) && decide (x ≤ 9000)) <;> rfl
theorem impl_AddToRegion (a b : Int) (l r : List Int) (v : Int) (hl : l.length ≤ 1048576) (hr : r.length ≤ 1048576) : Ev (fun k => impl_AddToRegion.f k a b l r v) (addT a b l r v) := by
  unfold impl_AddToRegion.f addT
  refine Ev.bind (isRegionOf a b l r hl hr) ?_
  refine Ev.cases (fun h => ?_) (fun h => ?_)
  · refine Ev.bindc (within_f v (-18000) 18000) ?_
    refine Ev.step (fun k => by rw [impl_AddToRegion.j0]) ?_
    refine Ev.cases (fun h2 => ?_) (fun h2 => ?_)
    · have h3 : inB (-18000) 18000 v = false := by cases hq : inB (-18000) 18000 v with | false => rfl | true => (unfold inB at hq; rw [hq] at h2; exact absurd h2 (by decide))
      exact Ev.const (by rw [h3, Bool.and_false]; rfl)
    · have h3 : inB (-18000) 18000 v = true := by unfold inB; simpa using h2
      have hc := asked_cells h
      have hv : -18000 ≤ v ∧ v ≤ 18000 := by simpa [inB] using h3
      have hcell := (fieldB_len hc.1).2.2.2.1
      refine Ev.bindc rfl ?_
      refine Ev.bind (editedField _ (addI v) r a b l hl hr hc.2 (fun c hcr => ?_)) (Ev.const ?_)
      · have h1 := hc.2 c hcr
        rcases cell_bounds (rd_cell hcell h1.1 h1.2) with h5 | h5
        · show (if rd l c = -9999 then _ else _) = _
          rw [if_pos h5, addI, if_pos h5]
        · have h6 : ¬ rd l c = -9999 := by omega
          show (if rd l c = -9999 then _ else _) = _
          rw [if_neg h6, addI, if_neg h6, w64 (by omega) (by omega), checkedCell_f]
      · rw [h, h3, Bool.true_and, if_pos rfl]
        show some (checkedT a b (editL (addI v) l r l)) = _
        by_cases hok : addOk l v r = true
        · rw [if_pos hok]
          have : ∀ (r' o : List Int), (∀ c ∈ r', c ∈ r) → editL (addI v) l r' o = editL (addS v) l r' o := by
            intro r'
            induction r' with
            | nil => intro o _; rfl
            | cons c r' ih =>
              intro o hs
              rw [editL_cons, editL_cons, ih _ (fun c hc => hs c (List.mem_cons_of_mem _ hc))]
              have h7 := List.all_eq_true.mp hok c (hs c List.mem_cons_self)
              have : addI v c (rd l c) = addS v c (rd l c) := by
                unfold addI addS
                by_cases h8 : rd l c = -9999
                · rw [if_pos h8, if_pos h8]
                · rw [if_neg h8, if_neg h8]
                  rw [show (rd l c == -9999) = false by simpa using h8, Bool.false_or] at h7
                  rw [if_pos h7]
              rw [this]
          rw [this r l (fun _ h => h)]
        · rw [if_neg hok]
          obtain ⟨c, hcr, hcb⟩ : ∃ c ∈ r, ¬ ((rd l c == -9999 || inB (-9000) 9000 (rd l c + v)) = true) := by
            simp only [addOk, List.all_eq_true] at hok
            exact Classical.byContradiction fun hn => hok fun c hc => Classical.byContradiction fun h => hn ⟨c, hc, h⟩
          have h1 := hc.2 c hcr
          simp only [Bool.or_eq_true, not_or] at hcb
          have h8 : ¬ rd l c = -9999 := by simpa using hcb.1
          have h9 := rd_editL (addI v) l r l (fun c hc' => (hc.2 c hc').1) c h1.1 h1.2
          rw [if_pos hcr, addI, if_neg h8, if_neg hcb.2] at h9
          have h10 : fieldB a b (editL (addI v) l r l) = false := by
            rw [Bool.eq_false_iff]
            intro h11
            have h12 := rd_cell (fieldB_len h11).2.2.2.1 h1.1 (by rw [editL_length]; exact h1.2)
            rw [h9] at h12
            exact absurd h12 (by decide)
          rw [checkedT, if_neg (by rw [h10]; decide)]
  · refine Ev.step (fun k => by rw [impl_AddToRegion.j0]) ?_
    exact Ev.pos rfl (Ev.const (by rw [Bool.eq_false_iff.mpr h, Bool.false_and]; rfl))
end Go.Proofs.Ytdmkbfjipgaloaa.Pure

namespace Go.Proofs.Ytdmkbfjipgaloaa.Pure
open Go.RowKit Go.Proofs.Ytdmkbfjipgaloaa.P Go.Proofs.YtdmkbfjipgaloaaW.PrintWords Go.Proofs.YtdmkbfjipgaloaaW.PrintLast

theorem FnExactAddToRegion (a b : Int) (l r : List Int) (v : Int) (_ : (Lit.int .i64 a).wf = true) (_ : (Lit.int .i64 b).wf = true) (hm0 : l.length ≤ maxLen) (_ : ∀ x ∈ l, (Lit.int .i64 x).wf = true) (_ : r.length ≤ maxLen) (_ : ∀ x ∈ r, (Lit.int .i64 x).wf = true) (_ : (Lit.int .i64 v).wf = true) : ∃ k, laws_FnExactAddToRegion.f k a b l r v = some true := by
  have hm : l.length ≤ 9223372036854775807 := Nat.le_trans hm0 (by decide)
  apply Ev.rounds
  unfold laws_FnExactAddToRegion.f
  refine Ev.cases (fun _ => Ev.now _) (fun hr => ?_)
  have hr : r.length ≤ 1048576 := by omega
  obtain ⟨t, ht, hl⟩ := szField_f a b l hm
  refine Ev.bindc ht (Ev.cases (fun _ => Ev.now _) (fun ht0 => ?_))
  have hl : l.length ≤ 1048576 := by omega
  have tf := toField a b l hl
  have tr := toIntS r hr
  have sp := spec_AddToRegion a b l r v hl hr
  have im := impl_AddToRegion a b l r v hl hr
  have hlen := addT_len a b l r v hl
  generalize addT a b l r v = q at sp im hlen
  obtain ⟨qa, qb, ql, qo⟩ := q
  simp only at hlen
  have e1 := eqField_refl qa qb ql hlen
  have e2 := eqField_refl a b l hl
  have e3 := Ev.eq (eqIntS r r (by omega)) (show decide (r = r) = true by simp)
  have m1 := markField qa qb ql (by omega)
  have m2 := markField a b l (by omega)
  have m3 := markAt r (1 + (l.length : Int)) (by omega) (by omega)
  have h1 := heldField qa qb ql.length hlen
  refine Ev.bind tf (Ev.bind tr (Ev.bind sp (Ev.bind tf (Ev.bind tr (Ev.bind im (Ev.bind e1 (Ev.pos rfl ?_)))))))
  refine Ev.step (fun k => by rw [laws_FnExactAddToRegion.j0]) ?_
  refine Ev.neg (by simp) (Ev.bind tf (Ev.bind e2 (Ev.pos rfl (Ev.bind tr (Ev.bind e3 (Ev.pos rfl (Ev.bind m2 (Ev.bind m3 (Ev.neg (by simp only; omega) (Ev.bind e1 (Ev.pos rfl ?_)))))))))))
  refine Ev.step (fun k => by rw [laws_FnExactAddToRegion.j1]) ?_
  refine (Ev.neg (by simp) (Ev.bind m1 (Ev.bind h1 (Ev.neg (by omega) (Ev.pos rfl (Ev.bind tf (Ev.bind tr (Ev.bind im (Ev.bind e1 (Ev.pos rfl ?_))))))))))
  refine Ev.step (fun k => by rw [laws_FnExactAddToRegion.j2]) ?_
  exact (Ev.neg (by simp) (Ev.bind h1 (Ev.neg (by omega) (Ev.pos rfl (Ev.now _)))))
end Go.Proofs.Ytdmkbfjipgaloaa.Pure
