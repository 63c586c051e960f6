/- The program's CopyRegion returns what the reference's returns, for all arguments. Conditions: none beyond the given statement's. -/
import Derived.Test.YtdmkbfjipgaloaaPx0
import Derived.Test.YtdmkbfjipgaloaaPx7
import Derived.Test.YtdmkbfjipgaloaaPx4
import Derived.Test.YtdmkbfjipgaloaaPx9
import Derived.Test.YtdmkbfjipgaloaaPx6
import Derived.Test.YtdmkbfjipgaloaaPx10
import Derived.Test.YtdmkbfjipgaloaaPx22
import Derived.Test.YtdmkbfjipgaloaaPx33
import Derived.Test.YtdmkbfjipgaloaaPx34
/- Small laws on "with enough rounds the function answers r" (Ev) and on wrapping sums; used by every plain law of this seat. -/
namespace Go.Proofs.Ytdmkbfjipgaloaa.Pure
open Go.RowKit Go.Proofs.YtdmkbfjipgaloaaW.PrintWords Go.Proofs.YtdmkbfjipgaloaaW.PrintLast

section
variable {α β : Type} {r : α} {f g : Nat → Option α}
theorem Ev.pos {c : Prop} [Decidable c] (h : c) (e : Ev f r) : Ev (fun k => if c then f k else g k) r := e.congr fun _ => if_pos h
theorem Ev.neg {c : Prop} [Decidable c] (h : ¬ c) (e : Ev g r) : Ev (fun k => if c then f k else g k) r := e.congr fun _ => if_neg h
theorem Ev.const {a : Option α} (h : a = some r) : Ev (fun _ => a) r := ⟨0, fun _ _ => h⟩
theorem Ev.bindc {a : Option β} {b : β} {f : Nat → β → Option α} (h : a = some b) (k : Ev (fun n => f n b) r) : Ev (fun n => a.bind (f n)) r := Ev.bind (Ev.const h) k
theorem Ev.eq {r' : α} (h : Ev f r) (e : r = r') : Ev f r' := e ▸ h
theorem Ev.cases {c : Prop} [Decidable c] (h1 : c → Ev f r) (h2 : ¬ c → Ev g r) : Ev (fun k => if c then f k else g k) r := by
  by_cases h : c
  · exact Ev.pos h (h1 h)
  · exact Ev.neg h (h2 h)
/-- Two answers of one function are one. -/
theorem Ev.uniq {r' : α} (h : Ev f r) (h' : Ev f r') : r = r' := by
  obtain ⟨K, hK⟩ := h
  obtain ⟨K', hK'⟩ := h'
  have a := hK (max K K') (Nat.le_max_left _ _)
  have b := hK' (max K K') (Nat.le_max_right _ _)
  rw [a] at b
  exact Option.some.inj b
end

theorem w64 {x : Int} (h1 : -9223372036854775808 ≤ x) (h2 : x ≤ 9223372036854775807) : wrap64 x = x := by unfold wrap64; omega

theorem rd_nat (l : List Int) (i : Nat) : rd l (i : Int) = l.getD i 0 := by simp [rd]
theorem rd_lt (l : List Int) (i : Nat) (h : i < l.length) : rd l (i : Int) = l[i] := by simp [rd, h]
theorem take_succ' {α : Type} (l : List α) (i : Nat) (h : i < l.length) : l.take (i + 1) = l.take i ++ [l[i]] := by
  rw [List.take_succ_eq_append_getElem h]
theorem drop_cons' {α : Type} (l : List α) (i : Nat) (h : i < l.length) : l.drop i = l[i] :: l.drop (i + 1) := List.drop_eq_getElem_cons h
end Go.Proofs.Ytdmkbfjipgaloaa.Pure

/- The laws' own helpers on lists of integers: a copy, an equality, marks and their check. -/
namespace Go.Proofs.Ytdmkbfjipgaloaa.Pure
open Go.RowKit Go.Proofs.Ytdmkbfjipgaloaa.P Go.Proofs.YtdmkbfjipgaloaaW.PrintWords Go.Proofs.YtdmkbfjipgaloaaW.PrintLast

theorem toIntS_l0 (l : List Int) (hl : l.length ≤ 1048576) : ∀ (d i : Nat) (o : List Int), l.length - i = d → i ≤ l.length → o.length = l.length → o.take i = l.take i →
    Ev (fun k => laws_toIntS.l0 k l o (i : Int)) l := by
  intro d
  induction d with
  | zero =>
    intro i o hd hi ho ht
    refine Ev.step (fun k => by rw [laws_toIntS.l0]) ?_
    refine Ev.neg (by omega) (Ev.const ?_)
    have hi' : i = l.length := by omega
    subst hi'
    rw [List.take_of_length_le (by omega), List.take_of_length_le (by omega)] at ht
    rw [ht]
  | succ d ih =>
    intro i o hd hi ho ht
    refine Ev.step (fun k => by rw [laws_toIntS.l0]) ?_
    refine Ev.pos (by omega) (Ev.pos (by omega) (Ev.pos (by omega) ?_))
    rw [w64 (by omega) (by omega), show (i : Int) + 1 = ((i + 1 : Nat) : Int) from by omega]
    refine ih (i + 1) _ (by omega) (by omega) (by simpa using ho) ?_
    rw [rd_lt l i (by omega), Int.toNat_natCast, take_succ' _ _ (by simp; omega), take_succ' l _ (by omega)]
    rw [List.take_set_of_le (Nat.le_refl i), ht]; simp
theorem toIntS (l : List Int) (hl : l.length ≤ 1048576) : Ev (fun k => laws_toIntS.f k l) l := by
  unfold laws_toIntS.f
  refine Ev.pos (by omega) (Ev.pos (by omega) ?_)
  exact toIntS_l0 l hl _ 0 _ rfl (by omega) (by simp) (by simp)

theorem eqIntS_l0 (a b : List Int) (hl : a.length ≤ 4611686018427387904) (hab : a.length = b.length) : ∀ (d i : Nat), a.length - i = d → i ≤ a.length →
    Ev (fun k => laws_eqIntS.l0 k a b (i : Int)) (decide (a.drop i = b.drop i)) := by
  intro d
  induction d with
  | zero =>
    intro i hd hi
    refine Ev.step (fun k => by rw [laws_eqIntS.l0]) ?_
    refine Ev.neg (by omega) (Ev.const ?_)
    rw [List.drop_of_length_le (by omega), List.drop_of_length_le (by omega)]; simp
  | succ d ih =>
    intro i hd hi
    refine Ev.step (fun k => by rw [laws_eqIntS.l0]) ?_
    refine Ev.pos (by omega) (Ev.pos (by omega) (Ev.pos (by omega) ?_))
    rw [w64 (by omega) (by omega), show (i : Int) + 1 = ((i + 1 : Nat) : Int) from by omega, rd_lt a i (by omega), rd_lt b i (by omega), drop_cons' a i (by omega), drop_cons' b i (by omega)]
    refine Ev.cases (fun h => ?_) (fun h => ?_)
    · exact Ev.eq (ih (i + 1) (by omega) (by omega)) (by rw [h]; simp only [List.cons.injEq, true_and])
    · exact Ev.const (by rw [decide_eq_false (fun e => h (List.cons.inj e).1)])
theorem eqIntS (a b : List Int) (hl : a.length ≤ 4611686018427387904) : Ev (fun k => laws_eqIntS.f k a b) (decide (a = b)) := by
  unfold laws_eqIntS.f
  refine Ev.cases (fun h => ?_) (fun h => ?_)
  · exact Ev.eq (eqIntS_l0 a b hl (by omega) _ 0 rfl (by omega)) (by simp)
  · refine Ev.const ?_
    congr 1
    refine (decide_eq_false fun e => h ?_).symm
    rw [e]
end Go.Proofs.Ytdmkbfjipgaloaa.Pure

/- Fields and regions: the program's tests and the reference's are the same. -/
namespace Go.Proofs.Ytdmkbfjipgaloaa.Pure
open Go.RowKit Go.Proofs.Ytdmkbfjipgaloaa.P Go.Proofs.YtdmkbfjipgaloaaW.PrintWords Go.Proofs.YtdmkbfjipgaloaaW.PrintLast

theorem l1In_f (x a b : Int) : spec_l1In.f x a b = some (decide (a ≤ x) && decide (x ≤ b)) := by
  unfold spec_l1In.f
  by_cases h : x ≥ a
  · simp [h]
  · simp [h]
theorem within_f (x a b : Int) : impl_within.f x a b = some (decide (a ≤ x) && decide (x ≤ b)) := by
  unfold impl_within.f
  by_cases h : x ≥ a
  · simp [h]
  · simp [h]
theorem l2Shape_f (a b : Int) : spec_l2Shape.f a b = some (sideB a && sideB b) := by
  unfold spec_l2Shape.f sideB
  rw [l1In_f, l1In_f]
  cases h : (decide (1 ≤ a) && decide (a ≤ 8)) <;> simp
theorem isShape_f (a b : Int) : impl_isShape.f a b = some (sideB a && sideB b) := by
  unfold impl_isShape.f sideB
  rw [within_f, within_f]
  cases h : (decide (1 ≤ a) && decide (a ≤ 8)) <;> simp
theorem l2Value_f (n : Int) : spec_l2Value.f n = some (cellB n) := by
  unfold spec_l2Value.f cellB
  rw [l1In_f]
  by_cases h : n = -9999
  · simp [h]
  · simp [h]
theorem isValidField_f (a b : Int) (l : List Int) : impl_IsValidField.f a b l = some (fieldB a b l) := rfl
theorem fieldB_len {a b : Int} {l : List Int} (h : fieldB a b l = true) : (l.length : Int) = a * b ∧ sideB a = true ∧ sideB b = true ∧ l.all cellB = true ∧ l.length ≤ 64 ∧ 1 ≤ l.length := by
  simp only [fieldB, Bool.and_eq_true] at h
  obtain ⟨⟨h1, h2⟩, h3, h4⟩ := h
  have h5 := side_mul h1 h2
  have h6 : (l.length : Int) = a * b := by simpa using h3
  exact ⟨h6, h1, h2, h4, by omega, by omega⟩

theorem l2Good_l0 (a b : Int) (l : List Int) (hl : l.length ≤ 1048576) : ∀ (d i : Nat), l.length - i = d → i ≤ l.length →
    Ev (fun k => spec_l2Good.l0 k (i : Int) a b l) ((l.drop i).all cellB) := by
  intro d
  induction d with
  | zero =>
    intro i hd hi
    refine Ev.step (fun k => by rw [spec_l2Good.l0]) ?_
    refine Ev.neg (by omega) (Ev.const ?_)
    rw [List.drop_of_length_le (by omega)]; rfl
  | succ d ih =>
    intro i hd hi
    refine Ev.step (fun k => by rw [spec_l2Good.l0]) ?_
    refine Ev.pos (by omega) (Ev.pos (by omega) ?_)
    have e := ih (i + 1) (by omega) (by omega)
    rw [w64 (by omega) (by omega), show (i : Int) + 1 = ((i + 1 : Nat) : Int) from by omega, rd_lt l i (by omega), drop_cons' l i (by omega), List.all_cons]
    refine Ev.bindc (l2Value_f _) ?_
    refine Ev.cases (fun h => ?_) (fun h => ?_)
    · exact Ev.eq e (by rw [h, Bool.true_and])
    · exact Ev.const (by rw [Bool.eq_false_iff.mpr h, Bool.false_and])
theorem l2Good (a b : Int) (l : List Int) (hl : l.length ≤ 1048576) : Ev (fun k => spec_l2Good.f k a b l) (fieldB a b l) := by
  unfold spec_l2Good.f
  refine Ev.bindc (l2Shape_f a b) ?_
  refine Ev.cases (fun h => ?_) (fun h => ?_)
  · simp only [Bool.and_eq_true] at h
    have h5 := side_mul h.1 h.2
    rw [w64 (by omega) (by omega)]
    refine Ev.step (fun k => by rw [spec_l2Good.j0]) ?_
    refine Ev.cases (fun h2 => ?_) (fun h2 => ?_)
    · refine Ev.const ?_
      have : ((l.length : Int) == a * b) = false := by simpa using h2
      simp [fieldB, this]
    · have h3 : ((l.length : Int) == a * b) = true := by simpa using h2
      refine Ev.eq (l2Good_l0 a b l hl _ 0 rfl (by omega)) ?_
      simp [fieldB, h.1, h.2, h3]
  · refine Ev.step (fun k => by rw [spec_l2Good.j0]) ?_
    refine Ev.pos rfl (Ev.const ?_)
    rw [fieldB, Bool.eq_false_iff.mpr h, Bool.false_and]

/-- Each number is less than the next. -/
def adjB : List Int → Bool
  | x :: y :: t => decide (x < y) && adjB (y :: t)
  | _ => true
def inB (lo hi x : Int) : Bool := decide (lo ≤ x) && decide (x ≤ hi)
theorem adjB_drop (l : List Int) (i : Nat) (h : i + 1 < l.length) : adjB (l.drop i) = (decide (l[i] < l[i + 1]) && adjB (l.drop (i + 1))) := by
  rw [drop_cons' l i (by omega), drop_cons' l (i + 1) h, adjB]
theorem adjB_short (l : List Int) (h : l.length ≤ 1) : adjB l = true := by
  match l, h with
  | [], _ => rfl
  | [_], _ => rfl

theorem increasing_l0 (l : List Int) (hl : l.length ≤ 1048576) : ∀ (d i : Nat), l.length - i = d →
    Ev (fun k => impl_increasing.l0 k l ((i + 1 : Nat) : Int)) (adjB (l.drop i)) := by
  intro d
  induction d with
  | zero =>
    intro i hd
    refine Ev.step (fun k => by rw [impl_increasing.l0]) ?_
    refine Ev.neg (by omega) (Ev.const ?_)
    rw [adjB_short _ (by simp; omega)]
  | succ d ih =>
    intro i hd
    refine Ev.step (fun k => by rw [impl_increasing.l0]) ?_
    refine Ev.cases (fun h1 => ?_) (fun h1 => ?_)
    · rw [w64 (by omega) (by omega), show ((i + 1 : Nat) : Int) - 1 = ((i : Nat) : Int) from by omega]
      refine Ev.pos (by omega) (Ev.pos (by omega) (Ev.pos (by omega) ?_))
      rw [w64 (by omega) (by omega), show ((i + 1 : Nat) : Int) + 1 = ((i + 1 + 1 : Nat) : Int) from by omega, rd_lt l i (by omega), rd_lt l (i + 1) (by omega), adjB_drop l i (by omega)]
      refine Ev.cases (fun h => ?_) (fun h => ?_)
      · exact Ev.const (by rw [decide_eq_false (by omega), Bool.false_and])
      · exact Ev.eq (ih (i + 1) (by omega)) (by rw [decide_eq_true (by omega), Bool.true_and])
    · refine Ev.const ?_
      rw [adjB_short _ (by simp; omega)]
theorem allWithin_l0 (l : List Int) (lo hi : Int) (hl : l.length ≤ 1048576) : ∀ (d i : Nat), l.length - i = d → i ≤ l.length →
    Ev (fun k => impl_allWithin.l0 k lo hi l (l.length : Int) (i : Int)) ((l.drop i).all (inB lo hi)) := by
  intro d
  induction d with
  | zero =>
    intro i hd hi'
    refine Ev.step (fun k => by rw [impl_allWithin.l0]) ?_
    refine Ev.neg (by omega) (Ev.const ?_)
    rw [List.drop_of_length_le (by omega)]; rfl
  | succ d ih =>
    intro i hd hi'
    refine Ev.step (fun k => by rw [impl_allWithin.l0]) ?_
    refine Ev.pos (by omega) (Ev.pos (by omega) (Ev.pos (by omega) ?_))
    have e := ih (i + 1) (by omega) (by omega)
    rw [w64 (by omega) (by omega), show (i : Int) + 1 = ((i + 1 : Nat) : Int) from by omega, rd_lt l i (by omega), drop_cons' l i (by omega), List.all_cons]
    refine Ev.bindc (within_f _ _ _) ?_
    refine Ev.cases (fun h => ?_) (fun h => ?_)
    · exact Ev.eq e (by rw [inB, h, Bool.true_and])
    · exact Ev.const (by rw [inB, Bool.eq_false_iff.mpr h, Bool.false_and])
theorem rising_l0 (l : List Int) (lo hi : Int) (hl : l.length ≤ 1048576) : ∀ (d i : Nat), l.length - i = d → i ≤ l.length →
    Ev (fun k => spec_l1Rising.l0 k l lo hi (i : Int)) ((l.drop i).all (inB lo hi) && adjB (l.drop (i - 1))) := by
  intro d
  induction d with
  | zero =>
    intro i hd hi'
    refine Ev.step (fun k => by rw [spec_l1Rising.l0]) ?_
    refine Ev.neg (by omega) (Ev.const ?_)
    rw [List.drop_of_length_le (by omega), adjB_short _ (by simp; omega)]; rfl
  | succ d ih =>
    intro i hd hi'
    refine Ev.step (fun k => by rw [spec_l1Rising.l0]) ?_
    refine Ev.pos (by omega) (Ev.pos (by omega) ?_)
    have e := ih (i + 1) (by omega) (by omega)
    rw [w64 (x := (i : Int) + 1) (by omega) (by omega), show (i : Int) + 1 = ((i + 1 : Nat) : Int) from by omega, rd_lt l i (by omega), drop_cons' l i (by omega), List.all_cons]
    refine Ev.bindc (l1In_f _ _ _) ?_
    refine Ev.cases (fun h => ?_) (fun h => ?_)
    · have h' : inB lo hi l[i] = true := h
      rw [h', Bool.true_and]
      refine Ev.cases (fun h0 => ?_) (fun h0 => ?_)
      · obtain ⟨j, rfl⟩ : ∃ j, i = j + 1 := ⟨i - 1, by omega⟩
        rw [w64 (by omega) (by omega), show ((j + 1 : Nat) : Int) - 1 = ((j : Nat) : Int) from by omega]
        refine Ev.pos (by omega) (Ev.pos (by omega) ?_)
        rw [rd_lt l j (by omega)]
        simp only [Nat.add_sub_cancel] at e ⊢
        rw [adjB_drop l j (by omega)]
        refine Ev.cases (fun h => ?_) (fun h => ?_)
        · exact Ev.const (by rw [decide_eq_false (by omega), Bool.false_and, Bool.and_false])
        · exact Ev.eq e (by rw [decide_eq_true (by omega), Bool.true_and])
      · have : i = 0 := by omega
        subst this
        exact Ev.eq e (by rfl)
    · exact Ev.const (by rw [show inB lo hi l[i] = false from Bool.eq_false_iff.mpr h, Bool.false_and, Bool.false_and])
/-- A region of a shape. -/
def regionB (a b : Int) (l : List Int) : Bool := (sideB a && sideB b) && (l.all (inB 0 (a * b - 1)) && adjB l)
theorem isRegion (a b : Int) (l : List Int) (hl : l.length ≤ 1048576) : Ev (fun k => impl_isRegion.f k a b l) (regionB a b l) := by
  unfold impl_isRegion.f
  refine Ev.bindc (isShape_f a b) ?_
  refine Ev.cases (fun h => ?_) (fun h => ?_)
  · simp only [Bool.and_eq_true] at h
    have h5 := side_mul h.1 h.2
    rw [w64 (x := a * b) (by omega) (by omega), w64 (x := a * b - 1) (by omega) (by omega)]
    refine Ev.bind (increasing_l0 l hl _ 0 rfl) ?_
    refine Ev.cases (fun h2 => ?_) (fun h2 => ?_)
    · refine Ev.bind (allWithin_l0 l 0 (a * b - 1) hl _ 0 rfl (by omega)) (Ev.const ?_)
      rw [List.drop_zero] at h2 ⊢
      simp [regionB, h.1, h.2, h2]
    · rw [List.drop_zero] at h2
      refine Ev.const ?_
      rw [regionB, Bool.eq_false_iff.mpr h2, Bool.and_false, Bool.and_false]
  · exact Ev.const (by rw [regionB, Bool.eq_false_iff.mpr h, Bool.false_and])
theorem l8Region (a b : Int) (l : List Int) (hl : l.length ≤ 1048576) : Ev (fun k => spec_l8Region.f k a b l) (regionB a b l) := by
  unfold spec_l8Region.f
  refine Ev.bindc (l2Shape_f a b) ?_
  refine Ev.cases (fun h => ?_) (fun h => ?_)
  · have h' := h
    simp only [Bool.and_eq_true] at h'
    have h5 := side_mul h'.1 h'.2
    rw [w64 (x := a * b) (by omega) (by omega), w64 (x := a * b - 1) (by omega) (by omega)]
    refine Ev.bind (rising_l0 l 0 (a * b - 1) hl _ 0 rfl (by omega)) (Ev.const ?_)
    rw [regionB, h, Bool.true_and]; rfl
  · exact Ev.const (by rw [regionB, Bool.eq_false_iff.mpr h, Bool.false_and])
/-- What the editing functions ask for first. -/
def askedB (a b : Int) (l r : List Int) : Bool := fieldB a b l && regionB a b r
theorem isRegionOf (a b : Int) (l r : List Int) (_hl : l.length ≤ 1048576) (hr : r.length ≤ 1048576) : Ev (fun k => impl_isRegionOf.f k a b l r) (askedB a b l r) := by
  unfold impl_isRegionOf.f
  refine Ev.bindc (isValidField_f a b l) ?_
  refine Ev.cases (fun h => ?_) (fun h => ?_)
  · exact Ev.bind (isRegion a b r hr) (Ev.const (by rw [askedB, h, Bool.true_and]))
  · exact Ev.const (by rw [askedB, Bool.eq_false_iff.mpr h, Bool.false_and])
theorem l23Asked (a b : Int) (l r : List Int) (hl : l.length ≤ 1048576) (hr : r.length ≤ 1048576) : Ev (fun k => spec_l23Asked.f k a b l r) (askedB a b l r) := by
  unfold spec_l23Asked.f
  refine Ev.bind (l2Good a b l hl) ?_
  refine Ev.cases (fun h => ?_) (fun h => ?_)
  · exact Ev.bind (l8Region a b r hr) (Ev.const (by rw [askedB, h, Bool.true_and]))
  · exact Ev.const (by rw [askedB, Bool.eq_false_iff.mpr h, Bool.false_and])
/-- The cells of a region lie in the field. -/
theorem asked_cells {a b : Int} {l r : List Int} (h : askedB a b l r = true) : fieldB a b l = true ∧ ∀ c ∈ r, 0 ≤ c ∧ c < (l.length : Int) := by
  simp only [askedB, Bool.and_eq_true] at h
  obtain ⟨h1, h2⟩ := h
  refine ⟨h1, fun c hc => ?_⟩
  have h3 := (fieldB_len h1).1
  simp only [regionB, Bool.and_eq_true] at h2
  have h4 := List.all_eq_true.mp h2.2.1 c hc
  simp only [inB, Bool.and_eq_true, decide_eq_true_eq] at h4
  omega
end Go.Proofs.Ytdmkbfjipgaloaa.Pure

/- The laws' marks on a list of integers and their check. -/
namespace Go.Proofs.Ytdmkbfjipgaloaa.Pure
open Go.RowKit Go.Proofs.Ytdmkbfjipgaloaa.P Go.Proofs.YtdmkbfjipgaloaaW.PrintWords Go.Proofs.YtdmkbfjipgaloaaW.PrintLast

/-- The marks a, a + 1, .. -/
def iota (a : Int) : Nat → List Int
  | 0 => []
  | n + 1 => a :: iota (a + 1) n
theorem iota_length : ∀ (n : Nat) (a : Int), (iota a n).length = n
  | 0, _ => rfl
  | n + 1, a => by simp [iota, iota_length n]
theorem iota_get : ∀ (n : Nat) (a : Int) (i : Nat) (h : i < (iota a n).length), (iota a n)[i] = a + i
  | 0, _, i, h => by simp [iota] at h
  | n + 1, a, 0, _ => by simp [iota]
  | n + 1, a, i + 1, h => by
    simp only [iota, List.getElem_cons_succ]
    rw [iota_get n (a + 1) i (by simpa [iota] using h)]; omega
theorem mark_l0 (n : Nat) (a : Int) (ha : 0 ≤ a) (hb : a + n ≤ 4611686018427387904) : ∀ (d i : Nat) (o : List Int), n - i = d → i ≤ n → o.length = n →
    Ev (fun k => laws_markIntS.l0 k o (a + i) (i : Int)) (a + n, o.take i ++ iota (a + i) (n - i)) := by
  intro d
  induction d with
  | zero =>
    intro i o hd hi ho
    refine Ev.step (fun k => by rw [laws_markIntS.l0]) (Ev.neg (by omega) (Ev.const ?_))
    have : i = n := by omega
    subst this
    rw [Nat.sub_self, List.take_of_length_le (by omega)]; simp [iota]
  | succ d ih =>
    intro i o hd hi ho
    refine Ev.step (fun k => by rw [laws_markIntS.l0]) (Ev.pos (by omega) (Ev.pos (by omega) ?_))
    rw [w64 (x := a + i + 1) (by omega) (by omega), w64 (by omega) (by omega), show (i : Int) + 1 = ((i + 1 : Nat) : Int) from by omega, show a + (i : Int) + 1 = a + ((i + 1 : Nat) : Int) from by omega, Int.toNat_natCast]
    refine Ev.eq (ih (i + 1) (o.set i (a + i)) (by omega) (by omega) (by simpa using ho)) ?_
    rw [take_succ' _ _ (by simp; omega), List.take_set_of_le (Nat.le_refl i), show n - i = (n - (i + 1)) + 1 from by omega]
    simp only [iota, List.getElem_set_self, List.append_assoc, List.singleton_append]
    rw [show a + ((i + 1 : Nat) : Int) = a + (i : Int) + 1 from by omega]
theorem mark (l : List Int) (hb : l.length ≤ 2305843009213693952) : Ev (fun k => laws_markIntS.f k l 1) (1 + (l.length : Int), iota 1 l.length) := by
  unfold laws_markIntS.f
  exact Ev.eq (mark_l0 l.length 1 (by omega) (by omega) _ 0 l rfl (by omega) rfl) (by simp)
theorem held_l0 (n : Nat) (a : Int) (ha : 0 ≤ a) (hb : a + n ≤ 4611686018427387904) : ∀ (d i : Nat), n - i = d → i ≤ n →
    Ev (fun k => laws_heldIntS.l0 k (iota a n) (a + i) (i : Int)) (a + n) := by
  intro d
  induction d with
  | zero =>
    intro i hd hi
    refine Ev.step (fun k => by rw [laws_heldIntS.l0]) (Ev.neg (by rw [iota_length]; omega) (Ev.const ?_))
    rw [show i = n from by omega]
  | succ d ih =>
    intro i hd hi
    refine Ev.step (fun k => by rw [laws_heldIntS.l0]) (Ev.pos (by rw [iota_length]; omega) (Ev.pos (by omega) ?_))
    rw [rd_lt _ i (by rw [iota_length]; omega), iota_get]
    refine Ev.pos rfl ?_
    rw [w64 (x := a + i + 1) (by omega) (by omega), w64 (by omega) (by omega), show (i : Int) + 1 = ((i + 1 : Nat) : Int) from by omega, show a + (i : Int) + 1 = a + ((i + 1 : Nat) : Int) from by omega]
    exact ih (i + 1) (by omega) (by omega)
theorem held (n : Nat) (hb : n ≤ 2305843009213693952) : Ev (fun k => laws_heldIntS.f k (iota 1 n) 1) (1 + (n : Int)) := by
  unfold laws_heldIntS.f
  exact Ev.eq (held_l0 n 1 (by omega) (by omega) _ 0 rfl (by omega)) (by simp)
end Go.Proofs.Ytdmkbfjipgaloaa.Pure

/- Edited fields: the program's loop over a region with a function, and the reference's loop with a value; copies; what the laws do to a field. -/
namespace Go.Proofs.Ytdmkbfjipgaloaa.Pure
open Go.RowKit Go.Proofs.Ytdmkbfjipgaloaa.P Go.Proofs.YtdmkbfjipgaloaaW.PrintWords Go.Proofs.YtdmkbfjipgaloaaW.PrintLast

theorem toField (a b : Int) (l : List Int) (hl : l.length ≤ 1048576) : Ev (fun k => laws_toField.f k a b l) (a, b, l) := by
  unfold laws_toField.f
  exact Ev.bind (toIntS l hl) (Ev.const rfl)
theorem eqField_refl (a b : Int) (l : List Int) (hl : l.length ≤ 1048576) : Ev (fun k => laws_eqField.f k a b l a b l) true := by
  unfold laws_eqField.f
  exact Ev.pos rfl (Ev.pos rfl (Ev.bind (Ev.eq (eqIntS l l (by omega)) (by simp)) (Ev.pos rfl (Ev.const rfl))))
theorem szField_f (a b : Int) (l : List Int) (hl : l.length ≤ 9223372036854775807) : ∃ t, laws_szField.f a b l 1048576 = some t ∧ (t < 0 ∨ l.length ≤ 1048576) := by
  unfold laws_szField.f laws_szIntS.f
  rw [w64 (by omega) (by omega)]
  by_cases h : (1048576 : Int) - (l.length : Int) < 0
  · exact ⟨-1, by rw [if_pos h]; rfl, .inl (by omega)⟩
  · rw [if_neg h]
    exact ⟨1048576 - (l.length : Int), by rw [Option.bind_some, if_neg h], .inr (by omega)⟩
theorem markField (a b : Int) (l : List Int) (hb : l.length ≤ 2305843009213693952) : Ev (fun k => laws_markField.f k a b l 1) (1 + (l.length : Int), iota 1 l.length) := by
  unfold laws_markField.f
  exact Ev.bind (mark l hb) (Ev.const rfl)
theorem markAt (l : List Int) (a : Int) (ha : 0 ≤ a) (hb : a + l.length ≤ 4611686018427387904) : Ev (fun k => laws_markIntS.f k l a) (a + (l.length : Int), iota a l.length) := by
  unfold laws_markIntS.f
  have e := mark_l0 l.length a ha hb _ 0 l rfl (by omega) rfl
  rw [show a + ((0 : Nat) : Int) = a from by omega] at e
  exact Ev.eq e (by simp)
theorem heldField (a b : Int) (n : Nat) (hb : n ≤ 1048576) : Ev (fun k => laws_heldField.f k a b (iota 1 n) 1) (1 + (n : Int)) := by
  unfold laws_heldField.f
  exact Ev.bind (held n (by omega)) (Ev.neg (by omega) (Ev.const rfl))

theorem cloneField_f (a b : Int) (l : List Int) (hl : l.length ≤ 1048576) : impl_cloneField.f a b l = some (a, b, l) := by
  unfold impl_cloneField.f slices_Clone_int_int.f
  rw [if_pos (by omega)]; rfl
theorem l2Own_f (a b : Int) (l : List Int) (hl : l.length ≤ 1048576) : spec_l2Own.f a b l = some (a, b, l) := by
  unfold spec_l2Own.f spec_l1Own.f
  simp only [Option.bind_some, List.length_nil, List.nil_append]
  rw [if_pos (by omega)]; rfl
/-- What a check of a made field gives. -/
def checkedT (a b : Int) (l : List Int) : Int × Int × List Int × Bool := if fieldB a b l = true then (a, b, l, true) else (0, 0, [], false)
theorem checkedField_f (a b : Int) (l : List Int) : impl_checkedField.f a b l = some (checkedT a b l) := by
  unfold impl_checkedField.f checkedT
  rw [isValidField_f, Option.bind_some]
  cases fieldB a b l <;> rfl
theorem checkedT_len (a b : Int) (l : List Int) : (checkedT a b l).2.2.1.length ≤ 64 := by
  unfold checkedT
  by_cases h : fieldB a b l = true
  · rw [if_pos h]; exact (fieldB_len h).2.2.2.2.1
  · rw [if_neg h]; simp
/-- The cells of a region set by a function of the cell and the value. -/
def editL (φ : Int → Int → Int) (l : List Int) (r o : List Int) : List Int := r.foldl (fun o c => o.set c.toNat (φ c (rd l c))) o
theorem editL_length (φ : Int → Int → Int) (l : List Int) : ∀ (r o : List Int), (editL φ l r o).length = o.length := by
  intro r
  induction r with
  | nil => intro o; rfl
  | cons c r ih => intro o; rw [editL, List.foldl_cons]; exact (ih _).trans (by simp)
theorem editL_all (φ : Int → Int → Int) (l : List Int) (p : Int → Bool) : ∀ (r o : List Int), (∀ c ∈ r, p (φ c (rd l c)) = true) → o.all p = true → (editL φ l r o).all p = true := by
  intro r
  induction r with
  | nil => intro o _ h; exact h
  | cons c r ih =>
    intro o hr ho
    rw [editL, List.foldl_cons]
    refine ih _ (fun c hc => hr c (List.mem_cons_of_mem _ hc)) ?_
    rw [List.all_eq_true] at ho ⊢
    intro x hx
    rcases List.mem_or_eq_of_mem_set hx with h | h
    · exact ho x h
    · rw [h]; exact hr c List.mem_cons_self
theorem editL_cons (φ : Int → Int → Int) (l : List Int) (c : Int) (r o : List Int) : editL φ l (c :: r) o = editL φ l r (o.set c.toNat (φ c (rd l c))) := rfl

theorem editedField_l0 (F : Int → Int → Option Int) (φ : Int → Int → Int) (r : List Int) (a b : Int) (l : List Int) (hr : r.length ≤ 1048576) (hc : ∀ c ∈ r, 0 ≤ c ∧ c < (l.length : Int)) (hF : ∀ c ∈ r, F c (rd l c) = some (φ c (rd l c))) :
    ∀ (d i : Nat) (o : List Int), r.length - i = d → i ≤ r.length → o.length = l.length → Ev (fun k => impl_editedField.l0 k F r (r.length : Int) (i : Int) a b l a b o) (checkedT a b (editL φ l (r.drop i) o)) := by
  intro d
  induction d with
  | zero =>
    intro i o hd hi ho
    refine Ev.step (fun k => by rw [impl_editedField.l0]) ?_
    refine Ev.neg (by omega) (Ev.bindc (checkedField_f a b o) (Ev.const ?_))
    rw [List.drop_of_length_le (by omega)]; rfl
  | succ d ih =>
    intro i o hd hi ho
    refine Ev.step (fun k => by rw [impl_editedField.l0]) ?_
    rw [rd_lt r i (by omega)]
    have h1 := hc r[i] (List.getElem_mem _)
    refine Ev.pos (by omega) (Ev.pos (by omega) (Ev.pos (by omega) (Ev.pos h1.1 (Ev.pos h1.2 ?_))))
    refine Ev.bindc (hF r[i] (List.getElem_mem _)) ?_
    refine Ev.pos (by omega) ?_
    rw [w64 (by omega) (by omega), show (i : Int) + 1 = ((i + 1 : Nat) : Int) from by omega, drop_cons' r i (by omega), editL_cons]
    exact ih (i + 1) _ (by omega) (by omega) (by simpa using ho)
theorem editedField (F : Int → Int → Option Int) (φ : Int → Int → Int) (r : List Int) (a b : Int) (l : List Int) (hl : l.length ≤ 1048576) (hr : r.length ≤ 1048576) (hc : ∀ c ∈ r, 0 ≤ c ∧ c < (l.length : Int)) (hF : ∀ c ∈ r, F c (rd l c) = some (φ c (rd l c))) :
    Ev (fun k => impl_editedField.f k a b l r F) (checkedT a b (editL φ l r l)) := by
  unfold impl_editedField.f
  exact Ev.bindc (cloneField_f a b l hl) (editedField_l0 F φ r a b l hr hc hF _ 0 l rfl (by omega) rfl)
/-- A field stays valid where each new value is one of a cell. -/
theorem editL_valid (φ : Int → Int → Int) (a b : Int) (l r : List Int) (h : fieldB a b l = true) (hv : ∀ c ∈ r, cellB (φ c (rd l c)) = true) : fieldB a b (editL φ l r l) = true := by
  have h1 := fieldB_len h
  simp only [fieldB, Bool.and_eq_true] at h ⊢
  rw [editL_length]
  exact ⟨h.1, h.2.1, editL_all φ l cellB r l hv h.2.2⟩
end Go.Proofs.Ytdmkbfjipgaloaa.Pure

/- Cells of a valid field. -/
namespace Go.Proofs.Ytdmkbfjipgaloaa.Pure
open Go.RowKit Go.Proofs.Ytdmkbfjipgaloaa.P Go.Proofs.YtdmkbfjipgaloaaW.PrintWords Go.Proofs.YtdmkbfjipgaloaaW.PrintLast

theorem cell_bounds {n : Int} (h : cellB n = true) : n = -9999 ∨ (-9000 ≤ n ∧ n ≤ 9000) := by
  simp only [cellB, Bool.or_eq_true, Bool.and_eq_true, decide_eq_true_eq, beq_iff_eq] at h; exact h
theorem rd_cell {l : List Int} (h : l.all cellB = true) {c : Int} (hc : 0 ≤ c) (hl : c < (l.length : Int)) : cellB (rd l c) = true := by
  have h1 : c.toNat < l.length := by omega
  have : rd l c = l[c.toNat] := by simp [rd, h1]
  rw [this]; exact List.all_eq_true.mp h _ (List.getElem_mem _)
end Go.Proofs.Ytdmkbfjipgaloaa.Pure

/- CopyRegion: the program's and the reference's answer. -/
namespace Go.Proofs.Ytdmkbfjipgaloaa.Pure
open Go.RowKit Go.Proofs.Ytdmkbfjipgaloaa.P Go.Proofs.YtdmkbfjipgaloaaW.PrintWords Go.Proofs.YtdmkbfjipgaloaaW.PrintLast

def likeB (a b : Int) (l : List Int) (c d : Int) (m : List Int) : Bool := fieldB a b l && (fieldB c d m && (a == c && b == d))
theorem likeB_len {a b : Int} {l : List Int} {c d : Int} {m : List Int} (h : likeB a b l c d m = true) : m.length = l.length ∧ m.all cellB = true := by
  simp only [likeB, Bool.and_eq_true, beq_iff_eq] at h
  obtain ⟨h1, h2, rfl, rfl⟩ := h
  have e1 := (fieldB_len h1).1
  have e2 := (fieldB_len h2).1
  exact ⟨by omega, (fieldB_len h2).2.2.2.1⟩
def copyT (a b : Int) (l : List Int) (c d : Int) (m r : List Int) : Int × Int × List Int × Bool := if (likeB a b l c d m && askedB a b l r) = true then (a, b, editL (fun c _ => rd m c) l r l, true) else (0, 0, [], false)
theorem copyT_len (a b : Int) (l : List Int) (c d : Int) (m r : List Int) (hl : l.length ≤ 1048576) : (copyT a b l c d m r).2.2.1.length ≤ 1048576 := by
  unfold copyT
  by_cases h : (likeB a b l c d m && askedB a b l r) = true
  · rw [if_pos h]; simp only [editL_length]; omega
  · rw [if_neg h]; simp
theorem l2Same (a b : Int) (l : List Int) (c d : Int) (m : List Int) (hl : l.length ≤ 1048576) (hm : m.length ≤ 1048576) : Ev (fun k => spec_l2Same.f k a b l c d m) (likeB a b l c d m) := by
  unfold spec_l2Same.f likeB
  refine Ev.bind (l2Good a b l hl) (Ev.cases (fun h => ?_) (fun h => Ev.const ?_))
  · refine Ev.bind (l2Good c d m hm) (Ev.cases (fun h2 => ?_) (fun h2 => Ev.const ?_))
    · refine Ev.cases (fun h3 => Ev.const ?_) (fun h3 => Ev.const ?_)
      · rw [h, h2, show (a == c) = true by simpa using h3, Bool.true_and, Bool.true_and, Bool.true_and]
      · rw [show (a == c) = false by simpa using h3, Bool.false_and, Bool.and_false, Bool.and_false]
    · rw [Bool.eq_false_iff.mpr h2, Bool.false_and, Bool.and_false]
  · rw [Bool.eq_false_iff.mpr h, Bool.false_and]
theorem sameShape_f (a b : Int) (l : List Int) (c d : Int) (m : List Int) : impl_sameShape.f a b l c d m = some (a == c && b == d) := by
  unfold impl_sameShape.f
  by_cases h : a = c
  · rw [if_pos h, show (a == c) = true by simpa using h, Bool.true_and]
  · rw [if_neg h, show (a == c) = false by simpa using h, Bool.false_and]
theorem areAlike (a b : Int) (l : List Int) (c d : Int) (m : List Int) : Ev (fun k => impl_areAlike.f k [(⟨a, b, l⟩ : S26), ⟨c, d, m⟩]) (likeB a b l c d m) := by
  unfold impl_areAlike.f likeB
  have e0 : rd_T26 [(⟨a, b, l⟩ : S26), ⟨c, d, m⟩] 0 = ⟨a, b, l⟩ := rfl
  have e1 : rd_T26 [(⟨a, b, l⟩ : S26), ⟨c, d, m⟩] 1 = ⟨c, d, m⟩ := rfl
  have w0 : wrap64 (0 + 1) = 1 := w64 (by decide) (by decide)
  have w1 : wrap64 (1 + 1) = 2 := w64 (by decide) (by decide)
  refine Ev.step (fun k => by rw [impl_areAlike.l0]) ?_
  rw [e0, w0]
  refine Ev.pos (by simp) (Ev.pos (by decide) (Ev.pos (by simp) (Ev.bindc (isValidField_f _ _ _) (Ev.cases (fun h => ?_) (fun h => Ev.const ?_)))))
  · refine Ev.pos (by simp) (Ev.bindc (sameShape_f _ _ _ _ _ _) (Ev.pos (by simp) ?_))
    refine Ev.step (fun k => by rw [impl_areAlike.l0]) ?_
    rw [e0, e1, w1]
    refine Ev.pos (by simp) (Ev.pos (by decide) (Ev.pos (by simp) (Ev.bindc (isValidField_f _ _ _) (Ev.cases (fun h2 => ?_) (fun h2 => Ev.const ?_)))))
    · refine Ev.pos (by simp) (Ev.bindc (sameShape_f _ _ _ _ _ _) (Ev.cases (fun h3 => ?_) (fun h3 => Ev.const ?_)))
      · refine Ev.step (fun k => by rw [impl_areAlike.l0]) (Ev.neg (by simp) (Ev.const ?_))
        have h4 : a = c ∧ b = d := by
          simp only [Bool.and_eq_true, beq_iff_eq] at h3
          exact ⟨h3.1.symm, h3.2.symm⟩
        obtain ⟨rfl, rfl⟩ := h4
        show some true = _
        simp only at h h2
        rw [h, h2]; simp
      · have h4 : (a == c && b == d) = false := by
          rw [Bool.eq_false_iff]
          intro h5
          apply h3
          simp only [Bool.and_eq_true, beq_iff_eq] at h5 ⊢
          exact ⟨h5.1.symm, h5.2.symm⟩
        rw [h4, Bool.and_false, Bool.and_false]
    · simp only at h2
      rw [Bool.eq_false_iff.mpr h2, Bool.false_and, Bool.and_false]
  · simp only at h
    rw [Bool.eq_false_iff.mpr h, Bool.false_and]
theorem spec_CopyRegion_l0 (a b : Int) (l : List Int) (c d : Int) (m r : List Int) (hr : r.length ≤ 1048576) (hm : m.length = l.length) (hc : ∀ c ∈ r, 0 ≤ c ∧ c < (l.length : Int)) :
    ∀ (e i : Nat) (o : List Int), r.length - i = e → i ≤ r.length → o.length = l.length → Ev (fun k => spec_CopyRegion.l0 k r (i : Int) c d m a b o) (a, b, editL (fun c _ => rd m c) l (r.drop i) o, true) := by
  intro e
  induction e with
  | zero =>
    intro i o hd hi ho
    refine Ev.step (fun k => by rw [spec_CopyRegion.l0]) ?_
    refine Ev.neg (by omega) (Ev.const ?_)
    rw [List.drop_of_length_le (by omega)]; rfl
  | succ e ih =>
    intro i o hd hi ho
    refine Ev.step (fun k => by rw [spec_CopyRegion.l0]) ?_
    rw [rd_lt r i (by omega)]
    have h1 := hc r[i] (List.getElem_mem _)
    refine Ev.pos (by omega) (Ev.pos (by omega) (Ev.pos h1.1 (Ev.pos (by omega) (Ev.pos (by omega) ?_))))
    rw [w64 (by omega) (by omega), show (i : Int) + 1 = ((i + 1 : Nat) : Int) from by omega, drop_cons' r i (by omega), editL_cons]
    exact ih (i + 1) _ (by omega) (by omega) (by simpa using ho)
theorem spec_CopyRegion (a b : Int) (l : List Int) (c d : Int) (m r : List Int) (hl : l.length ≤ 1048576) (hm : m.length ≤ 1048576) (hr : r.length ≤ 1048576) : Ev (fun k => spec_CopyRegion.f k a b l c d m r) (copyT a b l c d m r) := by
  unfold spec_CopyRegion.f copyT
  refine Ev.bind (l2Same a b l c d m hl hm) (Ev.cases (fun h => ?_) (fun h => ?_))
  · refine Ev.bind (l23Asked a b l r hl hr) ?_
    refine Ev.step (fun k => by rw [spec_CopyRegion.j0]) ?_
    refine Ev.cases (fun h2 => ?_) (fun h2 => ?_)
    · have h3 : askedB a b l r = false := by simpa using h2
      exact Ev.const (by rw [h3, Bool.and_false]; rfl)
    · have h3 : askedB a b l r = true := by simpa using h2
      have hc := asked_cells h3
      refine Ev.bindc (l2Own_f a b l hl) (Ev.eq (spec_CopyRegion_l0 a b l c d m r hr (likeB_len h).1 hc.2 _ 0 l rfl (by omega) rfl) ?_)
      rw [h, h3]; rfl
  · refine Ev.step (fun k => by rw [spec_CopyRegion.j0]) ?_
    exact Ev.pos rfl (Ev.const (by rw [Bool.eq_false_iff.mpr h, Bool.false_and]; rfl))
theorem impl_CopyRegion (a b : Int) (l : List Int) (c d : Int) (m r : List Int) (hl : l.length ≤ 1048576) (hr : r.length ≤ 1048576) : Ev (fun k => impl_CopyRegion.f k a b l c d m r) (copyT a b l c d m r) := by
  unfold impl_CopyRegion.f copyT
  refine Ev.bind (isRegionOf a b l r hl hr) ?_
  refine Ev.cases (fun h => ?_) (fun h => ?_)
  · refine Ev.bind (areAlike a b l c d m) ?_
    refine Ev.step (fun k => by rw [impl_CopyRegion.j0]) ?_
    refine Ev.cases (fun h2 => ?_) (fun h2 => ?_)
    · have h3 : likeB a b l c d m = false := by simpa using h2
      exact Ev.const (by rw [h3, Bool.false_and]; rfl)
    · have h3 : likeB a b l c d m = true := by simpa using h2
      have hc := asked_cells h
      have hlm := likeB_len h3
      refine Ev.bindc rfl ?_
      refine Ev.bind (editedField _ (fun c _ => rd m c) r a b l hl hr hc.2 (fun x hx => ?_)) (Ev.const ?_)
      · have h1 := hc.2 x hx
        show (if 0 ≤ x then (if x < (m.length : Int) then some (rd m x) else none) else none) = _
        rw [if_pos h1.1, if_pos (by omega)]
      · rw [checkedT, if_pos (editL_valid (fun c _ => rd m c) a b l r hc.1 (fun x hx => rd_cell hlm.2 (hc.2 x hx).1 (by have := (hc.2 x hx).2; omega))), h, h3]; rfl
  · refine Ev.step (fun k => by rw [impl_CopyRegion.j0]) ?_
    exact Ev.pos rfl (Ev.const (by rw [Bool.eq_false_iff.mpr h, Bool.and_false]; rfl))
end Go.Proofs.Ytdmkbfjipgaloaa.Pure

namespace Go.Proofs.Ytdmkbfjipgaloaa.Pure
open Go.RowKit Go.Proofs.Ytdmkbfjipgaloaa.P Go.Proofs.YtdmkbfjipgaloaaW.PrintWords Go.Proofs.YtdmkbfjipgaloaaW.PrintLast

theorem szField_g (a b : Int) (l : List Int) (t : Int) (hl : l.length ≤ 9223372036854775807) (h0 : 0 ≤ t) (h1 : t ≤ 1048576) : ∃ u, laws_szField.f a b l t = some u ∧ u ≤ t ∧ (u < 0 ∨ l.length ≤ 1048576) := by
  unfold laws_szField.f laws_szIntS.f
  rw [w64 (by omega) (by omega)]
  by_cases h : t - (l.length : Int) < 0
  · exact ⟨-1, by rw [if_pos h]; rfl, by omega, .inl (by omega)⟩
  · rw [if_neg h]
    exact ⟨t - (l.length : Int), by rw [Option.bind_some, if_neg h], by omega, .inr (by omega)⟩
theorem markFieldAt (a b : Int) (l : List Int) (t : Int) (ha : 0 ≤ t) (hb : t + l.length ≤ 4611686018427387904) : Ev (fun k => laws_markField.f k a b l t) (t + (l.length : Int), iota t l.length) := by
  unfold laws_markField.f
  exact Ev.bind (markAt l t ha hb) (Ev.const rfl)
theorem FnExactCopyRegion (a b : Int) (l : List Int) (c d : Int) (m r : List Int) (_ : (Lit.int .i64 a).wf = true) (_ : (Lit.int .i64 b).wf = true) (hl0 : l.length ≤ maxLen) (_ : ∀ x ∈ l, (Lit.int .i64 x).wf = true) (_ : (Lit.int .i64 c).wf = true) (_ : (Lit.int .i64 d).wf = true) (hm0 : m.length ≤ maxLen) (_ : ∀ x ∈ m, (Lit.int .i64 x).wf = true) (_ : r.length ≤ maxLen) (_ : ∀ x ∈ r, (Lit.int .i64 x).wf = true) : ∃ k, laws_FnExactCopyRegion.f k a b l c d m r = some true := by
  have hl1 : l.length ≤ 9223372036854775807 := Nat.le_trans hl0 (by decide)
  have hm1 : m.length ≤ 9223372036854775807 := Nat.le_trans hm0 (by decide)
  apply Ev.rounds
  unfold laws_FnExactCopyRegion.f
  refine Ev.cases (fun _ => Ev.now _) (fun hr => ?_)
  have hr : r.length ≤ 1048576 := by omega
  obtain ⟨t, ht, hle, hl⟩ := szField_g a b l 1048576 hl1 (by omega) (by omega)
  refine Ev.bindc ht (Ev.cases (fun _ => Ev.now _) (fun ht0 => ?_))
  have hl : l.length ≤ 1048576 := by omega
  obtain ⟨t2, ht2, _, hm⟩ := szField_g c d m t hm1 (by omega) (by omega)
  refine Ev.bindc ht2 (Ev.cases (fun _ => Ev.now _) (fun ht3 => ?_))
  have hm : m.length ≤ 1048576 := by omega
  have tf := toField a b l hl
  have tg := toField c d m hm
  have tr := toIntS r hr
  have sp := spec_CopyRegion a b l c d m r hl hm hr
  have im := impl_CopyRegion a b l c d m r hl hr
  have hlen := copyT_len a b l c d m r hl
  generalize copyT a b l c d m r = q at sp im hlen
  obtain ⟨qa, qb, ql, qo⟩ := q
  simp only at hlen
  have e1 := eqField_refl qa qb ql hlen
  have e2 := eqField_refl a b l hl
  have e4 := eqField_refl c d m hm
  have e3 := Ev.eq (eqIntS r r (by omega)) (show decide (r = r) = true by simp)
  have m1 := markField qa qb ql (by omega)
  have m2 := markField a b l (by omega)
  have m4 := markFieldAt c d m (1 + (l.length : Int)) (by omega) (by omega)
  have m3 := markAt r (1 + (l.length : Int) + (m.length : Int)) (by omega) (by omega)
  have h1 := heldField qa qb ql.length hlen
  refine Ev.bind tf (Ev.bind tg (Ev.bind tr (Ev.bind sp (Ev.bind tf (Ev.bind tg (Ev.bind tr (Ev.bind im (Ev.bind e1 (Ev.pos rfl ?_)))))))))
  refine Ev.step (fun k => by rw [laws_FnExactCopyRegion.j0]) ?_
  refine Ev.neg (by simp) (Ev.bind tf (Ev.bind e2 (Ev.pos rfl (Ev.bind tg (Ev.bind e4 (Ev.pos rfl (Ev.bind tr (Ev.bind e3 (Ev.pos rfl (Ev.bind m2 (Ev.bind m4 (Ev.bind m3 (Ev.neg (by simp only; omega) (Ev.bind e1 (Ev.pos rfl ?_)))))))))))))))
  refine Ev.step (fun k => by rw [laws_FnExactCopyRegion.j1]) ?_
  refine (Ev.neg (by simp) (Ev.bind m1 (Ev.bind h1 (Ev.neg (by omega) (Ev.pos rfl (Ev.bind tf (Ev.bind tg (Ev.bind tr (Ev.bind im (Ev.bind e1 (Ev.pos rfl ?_)))))))))))
  refine Ev.step (fun k => by rw [laws_FnExactCopyRegion.j2]) ?_
  exact (Ev.neg (by simp) (Ev.bind h1 (Ev.neg (by omega) (Ev.pos rfl (Ev.now _)))))
end Go.Proofs.Ytdmkbfjipgaloaa.Pure
