/- The program's ShortestRest returns what the reference's returns, for all arguments. Conditions: none beyond the given statement's. -/
import Derived.Test.YthhjhbndnipdgaaPx0
import Derived.Test.YthhjhbndnipdgaaPx9
import Derived.Test.YthhjhbndnipdgaaPx10
import Derived.Test.YthhjhbndnipdgaaPx25
import Derived.Test.YthhjhbndnipdgaaPx8
import Derived.Test.YthhjhbndnipdgaaPx6
import Derived.Test.YthhjhbndnipdgaaPx13
import Derived.Test.YthhjhbndnipdgaaPx17
import Derived.Test.YthhjhbndnipdgaaPx36
import Derived.Test.YthhjhbndnipdgaaPx22
import Derived.Test.YthhjhbndnipdgaaPx38
/- Small laws on "with enough rounds the function answers r" (Ev) and on wrapping sums; used by every plain law of this seat. -/
namespace Go.Proofs.Ythhjhbndnipdgaa.Pure
open Go.RowKit Go.Proofs.YthhjhbndnipdgaaW.PrintWords Go.Proofs.YthhjhbndnipdgaaW.PrintLast

section
variable {α β : Type} {r : α} {f g : Nat → Option α}
theorem Ev.pos {c : Prop} [Decidable c] (h : c) (e : Ev f r) : Ev (fun k => if c then f k else g k) r := e.congr fun _ => if_pos h
theorem Ev.neg {c : Prop} [Decidable c] (h : ¬ c) (e : Ev g r) : Ev (fun k => if c then f k else g k) r := e.congr fun _ => if_neg h
theorem Ev.const {a : Option α} (h : a = some r) : Ev (fun _ => a) r := ⟨0, fun _ _ => h⟩
theorem Ev.bindc {a : Option β} {b : β} {f : Nat → β → Option α} (h : a = some b) (k : Ev (fun n => f n b) r) : Ev (fun n => a.bind (f n)) r := Ev.bind (Ev.const h) k
theorem Ev.eq {r' : α} (h : Ev f r) (e : r = r') : Ev f r' := e ▸ h
theorem Ev.cases {c : Prop} [Decidable c] (h1 : c → Ev f r) (h2 : ¬ c → Ev g r) : Ev (fun k => if c then f k else g k) r := by
  by_cases h : c
  · exact Ev.pos h (h1 h)
  · exact Ev.neg h (h2 h)
/-- Two answers of one function are one. -/
theorem Ev.uniq {r' : α} (h : Ev f r) (h' : Ev f r') : r = r' := by
  obtain ⟨K, hK⟩ := h
  obtain ⟨K', hK'⟩ := h'
  have a := hK (max K K') (Nat.le_max_left _ _)
  have b := hK' (max K K') (Nat.le_max_right _ _)
  rw [a] at b
  exact Option.some.inj b
end

theorem w64 {x : Int} (h1 : -9223372036854775808 ≤ x) (h2 : x ≤ 9223372036854775807) : wrap64 x = x := by unfold wrap64; omega

theorem rd_nat (l : List Int) (i : Nat) : rd l (i : Int) = l.getD i 0 := by simp [rd]
theorem rd_lt (l : List Int) (i : Nat) (h : i < l.length) : rd l (i : Int) = l[i] := by simp [rd, h]
theorem take_succ' {α : Type} (l : List α) (i : Nat) (h : i < l.length) : l.take (i + 1) = l.take i ++ [l[i]] := by
  rw [List.take_succ_eq_append_getElem h]
theorem drop_cons' {α : Type} (l : List α) (i : Nat) (h : i < l.length) : l.drop i = l[i] :: l.drop (i + 1) := List.drop_eq_getElem_cons h
end Go.Proofs.Ythhjhbndnipdgaa.Pure

/- The laws' own helpers on lists of duties: a copy, an equality, marks and their check. -/
namespace Go.Proofs.Ythhjhbndnipdgaa.Pure
open Go.RowKit Go.Proofs.Ythhjhbndnipdgaa.P Go.Proofs.YthhjhbndnipdgaaW.PrintWords Go.Proofs.YthhjhbndnipdgaaW.PrintLast
set_option linter.unusedVariables false

def convD (z : S41) : S44 := ⟨z.f0, z.f1, z.f2⟩
theorem rdD_lt (l : List S44) (i : Nat) (h : i < l.length) : rd_T44 l (i : Int) = l[i] := by simp [rd_T44, h]
theorem rdD0_lt (l : List S41) (i : Nat) (h : i < l.length) : rd_T41 l (i : Int) = l[i] := by simp [rd_T41, h]
theorem toDutyS_l0 (l : List S41) (hl : l.length ≤ 1048576) : ∀ (d i : Nat) (o : List S44), l.length - i = d → i ≤ l.length → o.length = l.length → o.take i = (l.map convD).take i →
    Ev (fun k => laws_toDutyS.l0 k l o (i : Int)) (l.map convD) := by
  intro d
  induction d with
  | zero =>
    intro i o hd hi ho ht
    refine Ev.step (fun k => by rw [laws_toDutyS.l0]) ?_
    refine Ev.neg (by omega) (Ev.const ?_)
    have hi' : i = l.length := by omega
    subst hi'
    rw [List.take_of_length_le (by omega), List.take_of_length_le (by simp)] at ht
    rw [ht]
  | succ d ih =>
    intro i o hd hi ho ht
    refine Ev.step (fun k => by rw [laws_toDutyS.l0]) ?_
    refine Ev.pos (by omega) (Ev.pos (by omega) ?_)
    refine Ev.bindc (b := (l[i].f0, l[i].f1, l[i].f2)) (by rw [rdD0_lt l i (by omega)]; rfl) (Ev.pos (by omega) ?_)
    rw [w64 (by omega) (by omega), show (i : Int) + 1 = ((i + 1 : Nat) : Int) from by omega]
    refine ih (i + 1) _ (by omega) (by omega) (by simpa using ho) ?_
    rw [Int.toNat_natCast, take_succ' _ _ (by simp; omega), take_succ' (l.map convD) _ (by simp; omega)]
    rw [List.take_set_of_le (Nat.le_refl i), ht]; simp [convD]
theorem toDutyS (l : List S41) (hl : l.length ≤ 1048576) : Ev (fun k => laws_toDutyS.f k l) (l.map convD) := by
  unfold laws_toDutyS.f
  refine Ev.pos (by omega) (Ev.pos (by omega) ?_)
  exact toDutyS_l0 l hl _ 0 _ rfl (by omega) (by simp) (by simp)
theorem szDuty_f (l : List S41) (hm : l.length ≤ 9223372036854775807) : ∃ t, laws_szDutyS.f l 1048576 = some t ∧ (¬ t < 0 → l.length ≤ 1048576) := by
  unfold laws_szDutyS.f
  have hw : wrap64 (1048576 - (l.length : Int)) = 1048576 - (l.length : Int) := by unfold wrap64; omega
  rw [hw]
  by_cases h : 1048576 - (l.length : Int) < 0
  · rw [if_pos h]; exact ⟨_, rfl, by omega⟩
  · rw [if_neg h]; exact ⟨_, rfl, by omega⟩
theorem eqDuty_l0 (a : List S44) (hl : a.length ≤ 4611686018427387904) : ∀ (d i : Nat), a.length - i = d → i ≤ a.length → Ev (fun k => laws_eqDutyS.l0 k a a (i : Int)) true := by
  intro d
  induction d with
  | zero =>
    intro i hd hi
    refine Ev.step (fun k => by rw [laws_eqDutyS.l0]) ?_
    exact Ev.neg (by omega) (Ev.now _)
  | succ d ih =>
    intro i hd hi
    refine Ev.step (fun k => by rw [laws_eqDutyS.l0]) ?_
    refine Ev.pos (by omega) (Ev.pos (by omega) (Ev.pos (by omega) ?_))
    refine Ev.bindc (b := true) (by unfold laws_eqDuty.f; simp) (Ev.pos rfl ?_)
    rw [w64 (by omega) (by omega), show (i : Int) + 1 = ((i + 1 : Nat) : Int) from by omega]
    exact ih (i + 1) (by omega) (by omega)
theorem eqDuty_refl (a : List S44) (hl : a.length ≤ 4611686018427387904) : Ev (fun k => laws_eqDutyS.f k a a) true := by
  unfold laws_eqDutyS.f
  exact Ev.pos rfl (eqDuty_l0 a hl _ 0 rfl (by omega))
def marked : List S44 → Int → List S44
  | [], _ => []
  | _ :: xs, k => ⟨k, k + 1, k + 2⟩ :: marked xs (k + 3)
theorem marked_len : ∀ (l : List S44) (k : Int), (marked l k).length = l.length
  | [], _ => rfl
  | _ :: xs, k => by simp [marked, marked_len xs]
theorem marked_snoc : ∀ (l : List S44) (x : S44) (k : Int), marked (l ++ [x]) k = marked l k ++ [⟨k + 3 * l.length, k + 3 * l.length + 1, k + 3 * l.length + 2⟩]
  | [], x, k => by simp [marked]
  | y :: ys, x, k => by
    simp only [List.cons_append, marked, marked_snoc ys x (k + 3)]
    congr 2
    simp; omega
theorem markD_l0 (l : List S44) (a : Int) (ha : 0 ≤ a) (hb : a ≤ 1048576) (hl : l.length ≤ 4611686018427) : ∀ (d i : Nat), l.length - i = d → i ≤ l.length →
    Ev (fun k => laws_markDutyS.l0 k (marked (l.take i) a ++ l.drop i) (a + 3 * i) (i : Int)) (a + 3 * l.length, marked l a) := by
  intro d
  induction d with
  | zero =>
    intro i hd hi
    obtain rfl : i = l.length := by omega
    refine Ev.step (fun k => by rw [laws_markDutyS.l0]) ?_
    refine Ev.neg (by simp [marked_len]) (Ev.const ?_)
    simp
  | succ d ih =>
    intro i hd hi
    have hlt : i < l.length := by omega
    have hml : (marked (l.take i) a).length = i := by rw [marked_len]; simp; omega
    refine Ev.step (fun k => by rw [laws_markDutyS.l0]) ?_
    rw [List.drop_eq_getElem_cons hlt]
    refine Ev.pos (by simp [hml]; omega) (Ev.pos (by omega) ?_)
    simp only [Option.bind_some, Int.toNat_natCast]
    have hset : ∀ x y : S44, (marked (l.take i) a ++ x :: l.drop (i + 1)).set i y = marked (l.take i) a ++ y :: l.drop (i + 1) := fun x y => by
      rw [List.set_append_right _ _ (by omega), hml, Nat.sub_self]; rfl
    have hrd : ∀ x : S44, rd_T44 (marked (l.take i) a ++ x :: l.drop (i + 1)) (i : Int) = x := fun x => by
      rw [rdD_lt _ _ (by simp [hml]), List.getElem_append_right (by omega)]; simp [hml]
    simp only [hset, hrd]
    have e1 : wrap64 (a + 3 * (i : Int) + 1) = a + 3 * i + 1 := w64 (by omega) (by omega)
    have e2 : wrap64 (a + 3 * (i : Int) + 1 + 1) = a + 3 * i + 2 := by rw [w64 (by omega) (by omega)]; omega
    have e3 : wrap64 (a + 3 * (i : Int) + 2 + 1) = a + 3 * ((i + 1 : Nat) : Int) := by rw [w64 (by omega) (by omega)]; omega
    rw [e1, e2, e3, w64 (x := (i : Int) + 1) (by omega) (by omega), show (i : Int) + 1 = ((i + 1 : Nat) : Int) from by omega]
    have h1 := ih (i + 1) (by omega) (by omega)
    rw [take_succ' _ _ hlt, marked_snoc, List.append_assoc, List.length_take, Nat.min_eq_left (by omega)] at h1
    exact h1
theorem markDuty (l : List S44) (a : Int) (ha : 0 ≤ a) (hb : a ≤ 1048576) (hl : l.length ≤ 4611686018427) : Ev (fun k => laws_markDutyS.f k l a) (a + 3 * l.length, marked l a) := by
  unfold laws_markDutyS.f
  have h := markD_l0 l a ha hb hl _ 0 rfl (by omega)
  simpa [marked] using h
theorem heldD_l0 (a : Int) (ha : 0 ≤ a) (hb : a ≤ 1048576) (l : List S44) (hl : l.length ≤ 4611686018427) : ∀ (d i : Nat), l.length - i = d → i ≤ l.length →
    Ev (fun k => laws_heldDutyS.l0 k (marked l a) (a + 3 * i) (i : Int)) (a + 3 * l.length) := by
  intro d
  induction d with
  | zero =>
    intro i hd hi
    obtain rfl : i = l.length := by omega
    refine Ev.step (fun k => by rw [laws_heldDutyS.l0]) ?_
    exact Ev.neg (by simp [marked_len]) (Ev.now _)
  | succ d ih =>
    intro i hd hi
    have hlt : i < l.length := by omega
    refine Ev.step (fun k => by rw [laws_heldDutyS.l0]) ?_
    have hml := marked_len l a
    have hel : rd_T44 (marked l a) (i : Int) = ⟨a + 3 * i, a + 3 * i + 1, a + 3 * i + 2⟩ := by
      rw [rdD_lt _ _ (by omega)]
      have h1 : marked l a = marked (l.take i ++ [l[i]]) a ++ marked (l.drop (i + 1)) (a + 3 * (i + 1 : Nat)) := by
        have : ∀ (xs ys : List S44) (k : Int), marked (xs ++ ys) k = marked xs k ++ marked ys (k + 3 * xs.length) := by
          intro xs
          induction xs with
          | nil => intro ys k; simp [marked]
          | cons x xs ihx =>
            intro ys k
            simp only [List.cons_append, marked, ihx]
            congr 3
            simp; omega
        conv => lhs; rw [← List.take_append_drop (i + 1) l]
        rw [this, take_succ' _ _ hlt]
        congr 3
        simp; omega
      have h2 : (marked l a)[i]? = some ⟨a + 3 * i, a + 3 * i + 1, a + 3 * i + 2⟩ := by
        rw [h1, marked_snoc, List.append_assoc, List.getElem?_append_right (by rw [marked_len]; simp; omega)]
        rw [marked_len, List.length_take, Nat.min_eq_left (by omega), Nat.sub_self]
        rfl
      rw [List.getElem?_eq_getElem (by omega)] at h2
      exact Option.some.inj h2
    rw [hel]
    have e1 : wrap64 (a + 3 * (i : Int) + 1) = a + 3 * i + 1 := w64 (by omega) (by omega)
    have e2 : wrap64 (a + 3 * (i : Int) + 1 + 1) = a + 3 * i + 2 := by rw [w64 (by omega) (by omega)]; omega
    have e3 : wrap64 (a + 3 * (i : Int) + 2 + 1) = a + 3 * ((i + 1 : Nat) : Int) := by rw [w64 (by omega) (by omega)]; omega
    rw [e1, e2, e3, w64 (x := (i : Int) + 1) (by omega) (by omega), show (i : Int) + 1 = ((i + 1 : Nat) : Int) from by omega]
    exact Ev.pos (by omega) (Ev.pos (by omega) (Ev.pos rfl (Ev.pos rfl (Ev.pos rfl (ih (i + 1) (by omega) (by omega))))))
theorem heldDuty (l : List S44) (a : Int) (ha : 0 ≤ a) (hb : a ≤ 1048576) (hl : l.length ≤ 4611686018427) : Ev (fun k => laws_heldDutyS.f k (marked l a) a) (a + 3 * l.length) := by
  unfold laws_heldDutyS.f
  have h := heldD_l0 a ha hb l hl _ 0 rfl (by omega)
  simpa using h
end Go.Proofs.Ythhjhbndnipdgaa.Pure

/- What a plan is, and that the program and the reference both say so. -/
namespace Go.Proofs.Ythhjhbndnipdgaa.Pure
open Go.RowKit Go.Proofs.Ythhjhbndnipdgaa.P Go.Proofs.YthhjhbndnipdgaaW.PrintWords Go.Proofs.YthhjhbndnipdgaaW.PrintLast
set_option linter.unusedVariables false

theorem rdP_lt (l : List S44) (i : Nat) (h : i < l.length) : rd_T44 l (i : Int) = l[i] := by simp [rd_T44, h]
/-- One duty for itself. -/
def dOk (d : S44) : Prop := 1 ≤ d.f0 ∧ d.f0 ≤ 8 ∧ 0 ≤ d.f1 ∧ d.f1 < d.f2 ∧ d.f2 ≤ 240 ∧ d.f2 - d.f1 ≤ 12
/-- a comes before b. -/
def dLt (a b : S44) : Prop := a.f1 < b.f1 ∨ (a.f1 = b.f1 ∧ a.f0 < b.f0)
def dRest (a b : S44) : Prop := a.f0 = b.f0 → a.f2 + 11 ≤ b.f1
theorem dLt_trans {a b c : S44} (h1 : dLt a b) (h2 : dLt b c) : dLt a c := by unfold dLt at *; omega
theorem dLt_irrefl (a : S44) : ¬ dLt a a := by unfold dLt; omega
/-- Duties in order, each for itself valid. -/
def Row1 (l : List S44) : Prop := (∀ d ∈ l, dOk d) ∧ l.Pairwise dLt
/-- Duties in order, with rests. -/
def Row2 (l : List S44) : Prop := (∀ d ∈ l, dOk d) ∧ l.Pairwise dLt ∧ l.Pairwise dRest
/-- A plan. -/
def Plan (l : List S44) : Prop := Row2 l ∧ l.length ≤ 20
open Classical in
noncomputable def planB (l : List S44) : Bool := decide (Plan l)
theorem planB_true {l : List S44} : planB l = true ↔ Plan l := by unfold planB; simp
theorem planB_eq {l l' : List S44} (h : Plan l ↔ Plan l') : planB l = planB l' := by
  rw [Bool.eq_iff_iff, planB_true, planB_true]; exact h
theorem planB_of {l : List S44} (h : Plan l) : planB l = true := planB_true.2 h
theorem planB_not {l : List S44} (h : ¬ Plan l) : planB l = false := by
  cases e : planB l with
  | false => rfl
  | true => exact absurd (planB_true.1 e) h

theorem within_f (x a b : Int) : impl_within.f x a b = some (decide (a ≤ x ∧ x ≤ b)) := by
  unfold impl_within.f
  by_cases h : x ≥ a
  · rw [if_pos h]; congr 1; simp; omega
  · rw [if_neg h]; congr 1; simp; omega
theorem l1In_f (x a b : Int) : spec_l1In.f x a b = some (decide (a ≤ x ∧ x ≤ b)) := by
  unfold spec_l1In.f
  by_cases h : x ≥ a
  · rw [if_pos h]; congr 1; simp; omega
  · rw [if_neg h]; congr 1; simp; omega

/-- The last of the duties so far comes before d: so do all. -/
theorem before_all {l : List S44} {i : Nat} (hi : i < l.length) (h : (l.take i).Pairwise dLt) (d : S44) (h0 : ∀ (hp : 0 < i), dLt (l[i - 1]'(by omega)) d) : ∀ a ∈ l.take i, dLt a d := by
  intro a ha
  obtain ⟨j, hj, rfl⟩ := List.getElem_of_mem ha
  have hj' : j < i := by simp at hj; omega
  have hp : 0 < i := by omega
  have hlast := h0 hp
  by_cases e : j = i - 1
  · subst e; simpa using hlast
  · have h1 := List.pairwise_iff_getElem.1 h j (i - 1) hj (by simp; omega) (by omega)
    exact dLt_trans h1 (by simpa using hlast)
theorem row1_step {l : List S44} {i : Nat} (hi : i < l.length) (h : Row1 (l.take i)) (ho : dOk l[i]) (h0 : ∀ (hp : 0 < i), dLt (l[i - 1]'(by omega)) l[i]) : Row1 (l.take (i + 1)) := by
  rw [take_succ' _ _ hi]
  refine ⟨fun d hd => ?_, List.pairwise_append.2 ⟨h.2, List.pairwise_singleton _ _, fun a ha b hb => ?_⟩⟩
  · rcases List.mem_append.1 hd with hd | hd
    · exact h.1 d hd
    · rw [List.mem_singleton.1 hd]; exact ho
  · rw [List.mem_singleton.1 hb]; exact before_all hi h.2 _ h0 a ha
theorem row2_step {l : List S44} {i : Nat} (hi : i < l.length) (h : Row2 (l.take i)) (ho : dOk l[i]) (h0 : ∀ (hp : 0 < i), dLt (l[i - 1]'(by omega)) l[i]) (hr : ∀ a ∈ l.take i, dRest a l[i]) : Row2 (l.take (i + 1)) := by
  have h1 := row1_step hi ⟨h.1, h.2.1⟩ ho h0
  refine ⟨h1.1, h1.2, ?_⟩
  rw [take_succ' _ _ hi]
  refine List.pairwise_append.2 ⟨h.2.2, List.pairwise_singleton _ _, fun a ha b hb => ?_⟩
  rw [List.mem_singleton.1 hb]; exact hr a ha
theorem plan_dOk {l : List S44} (h : Plan l) {i : Nat} (hi : i < l.length) : dOk l[i] := h.1.1 _ (List.getElem_mem _)
theorem plan_order {l : List S44} (h : l.Pairwise dLt) {i : Nat} (hi : i < l.length) (hp : 0 < i) : dLt (l[i - 1]'(by omega)) l[i] := List.pairwise_iff_getElem.1 h (i - 1) i (by omega) hi (by omega)

/-! ### the program -/
theorem compare_ge (k : Nat) (x y : S44) (hk : 3 ≤ k) : impl_compareDuties.f k x.f0 x.f1 x.f2 y.f0 y.f1 y.f2 = some (cmpD x y) := by
  obtain ⟨d, rfl⟩ : ∃ d, k = 3 + d := ⟨k - 3, by omega⟩
  induction d with
  | zero => exact compareD_f x y
  | succ d ih => exact impl_compareDuties.mono _ _ _ _ _ _ _ _ (ih (by omega))
theorem cmpD_lt (x y : S44) : cmpD x y < 0 ↔ dLt x y := by
  have := ltD x y
  unfold ltOf at this
  rw [decide_eq_decide] at this
  exact this
theorem compareEv (x y : S44) : Ev (fun k => impl_compareDuties.f k x.f0 x.f1 x.f2 y.f0 y.f1 y.f2) (cmpD x y) := ⟨3, fun k hk => compare_ge k x y hk⟩
theorem isValid_l0 (l : List S44) (hl : l.length ≤ 1099511627776) : ∀ (d i : Nat), l.length - i = d → i ≤ l.length → Row2 (l.take i) →
    Ev (fun k => impl_IsValidPlan.l0 k l l (l.length : Int) (i : Int)) (planB l) := by
  intro d
  induction d with
  | zero =>
    intro i hd hi hR
    obtain rfl : i = l.length := by omega
    rw [List.take_length] at hR
    refine Ev.step (fun k => by rw [impl_IsValidPlan.l0]) ?_
    refine Ev.neg (by omega) (Ev.const ?_)
    congr 1
    rw [Bool.eq_iff_iff, planB_true]
    simp [Plan, hR]
    omega
  | succ d ih =>
    intro i hd hi hR
    have hlt : i < l.length := by omega
    refine Ev.step (fun k => by rw [impl_IsValidPlan.l0]) ?_
    refine Ev.pos (by omega) (Ev.pos (by omega) (Ev.pos (by omega) ?_))
    rw [rdP_lt l i hlt]
    have hno : ∀ x : Bool, (¬ Plan l) → x = true → Ev (fun k => impl_IsValidPlan.j1 k l (i : Int) l (l.length : Int) (i : Int) x l[i].f0 l[i].f1 l[i].f2) (planB l) := fun x hn hx => by
      subst hx
      refine Ev.step (fun k => by rw [impl_IsValidPlan.j1]) ?_
      rw [planB_not hn]
      exact Ev.pos rfl (Ev.now _)
    refine Ev.bindc (within_f _ _ _) ?_
    refine Ev.cases (fun h1 => ?_) (fun h1 => hno _ (fun hP => ?_) rfl)
    rotate_left
    · have := plan_dOk hP hlt; unfold dOk at this; simp at h1; omega
    have h1' : 1 ≤ l[i].f0 ∧ l[i].f0 ≤ 8 := of_decide_eq_true h1
    refine Ev.cases (fun h2 => hno _ (fun hP => ?_) rfl) (fun h2 => ?_)
    · have := plan_dOk hP hlt; unfold dOk at this; omega
    refine Ev.cases (fun h3 => hno _ (fun hP => ?_) rfl) (fun h3 => ?_)
    · have := plan_dOk hP hlt; unfold dOk at this; omega
    refine Ev.cases (fun h4 => hno _ (fun hP => ?_) rfl) (fun h4 => ?_)
    · have := plan_dOk hP hlt; unfold dOk at this; omega
    rw [w64 (x := l[i].f2 - l[i].f1) (by omega) (by omega)]
    by_cases h5 : l[i].f2 - l[i].f1 > 12
    · exact hno _ (fun hP => by have := plan_dOk hP hlt; unfold dOk at this; omega) (decide_eq_true h5)
    rw [decide_eq_false h5]
    have ho : dOk l[i] := by unfold dOk; omega
    have hno2 : ∀ x : Bool, (¬ Plan l) → x = true → Ev (fun k => impl_IsValidPlan.j2 k l (i : Int) l (l.length : Int) (i : Int) x l[i].f0 l[i].f1 l[i].f2) (planB l) := fun x hn hx => by
      subst hx
      refine Ev.step (fun k => by rw [impl_IsValidPlan.j2]) ?_
      rw [planB_not hn]
      exact Ev.pos rfl (Ev.now _)
    have hyes : (∀ (hp : 0 < i), dLt (l[i - 1]'(by omega)) l[i]) → Ev (fun k => impl_IsValidPlan.j2 k l (i : Int) l (l.length : Int) (i : Int) false l[i].f0 l[i].f1 l[i].f2) (planB l) := fun h0 => by
      refine Ev.step (fun k => by rw [impl_IsValidPlan.j2]) ?_
      refine Ev.neg (by decide) (Ev.pos (by omega) (Ev.pos (by omega) ?_))
      rw [Int.toNat_natCast]
      refine Ev.bindc (b := ((l.take i).any fun o => o.f0 == l[i].f0 && decide (l[i].f1 < wrap64 (o.f2 + 11)))) rfl ?_
      have hany : ((l.take i).any fun o => o.f0 == l[i].f0 && decide (l[i].f1 < wrap64 (o.f2 + 11))) = true ↔ ¬ ∀ a ∈ l.take i, dRest a l[i] := by
        rw [List.any_eq_true]
        constructor
        · rintro ⟨o, hm, hb⟩ hall
          have h6 := hall o hm
          have h7 := hR.1 o hm
          unfold dOk at h7
          simp only [Bool.and_eq_true, beq_iff_eq, decide_eq_true_eq] at hb
          rw [w64 (by omega) (by omega)] at hb
          have := h6 hb.1
          omega
        · intro hn
          have : ∃ a ∈ l.take i, ¬ dRest a l[i] := by
            refine Classical.byContradiction fun hc => hn fun a ha => ?_
            exact Classical.byContradiction fun hd => hc ⟨a, ha, hd⟩
          obtain ⟨o, hm, hb⟩ := this
          have h7 := hR.1 o hm
          unfold dOk at h7
          unfold dRest at hb
          refine ⟨o, hm, ?_⟩
          simp only [Bool.and_eq_true, beq_iff_eq, decide_eq_true_eq]
          rw [w64 (by omega) (by omega)]
          omega
      refine Ev.cases (fun h6 => ?_) (fun h6 => ?_)
      · refine Ev.const ?_
        rw [planB_not (fun hP => hany.1 h6 (fun a ha => ?_))]
        have h8 := hP.1.2.2
        obtain ⟨j, hj, rfl⟩ := List.getElem_of_mem ha
        have hj' : j < i := by simp at hj; omega
        simpa using List.pairwise_iff_getElem.1 h8 j i (by omega) hlt hj'
      · rw [w64 (by omega) (by omega), show (i : Int) + 1 = ((i + 1 : Nat) : Int) from by omega]
        refine ih (i + 1) (by omega) (by omega) (row2_step hlt hR ho h0 ?_)
        exact Classical.byContradiction fun hn => h6 (hany.2 hn)
    refine Ev.step (fun k => by rw [impl_IsValidPlan.j1]) ?_
    refine Ev.neg (by decide) (Ev.cases (fun hp => ?_) (fun hp => hyes (fun h => by omega)))
    have hpi : 0 < i := by omega
    have ew : wrap64 ((i : Int) - 1) = ((i - 1 : Nat) : Int) := by rw [w64 (by omega) (by omega)]; omega
    rw [ew, rdP_lt l (i - 1) (by omega)]
    refine Ev.pos (by omega) (Ev.pos (by omega) (Ev.bind (compareEv _ _) ?_))
    by_cases hc : cmpD (l[i - 1]'(by omega)) l[i] ≥ 0
    · refine hno2 _ (fun hP => ?_) (decide_eq_true hc)
      have := (cmpD_lt _ _).2 (plan_order hP.1.2.1 hlt hpi)
      omega
    · rw [decide_eq_false hc]
      exact hyes (fun _ => (cmpD_lt _ _).1 (by omega))
theorem isValidPlan (l : List S44) (hl : l.length ≤ 1099511627776) : Ev (fun k => impl_IsValidPlan.f k l) (planB l) := by
  unfold impl_IsValidPlan.f
  exact isValid_l0 l hl _ 0 rfl (by omega) ⟨by simp, by simp, by simp⟩

/-! ### the reference -/
def restOk (p : Int) : Int → List S44 → Prop
  | _, [] => True
  | e, d :: ds => if d.f0 = p then ((0 ≤ e → e + 11 ≤ d.f1) ∧ restOk p d.f2 ds) else restOk p e ds
def restF (p : Int) : Int → Int → List S44 → Int
  | least, _, [] => least
  | least, e, d :: ds => if d.f0 = p then (if 0 ≤ e ∧ (least < 0 ∨ d.f1 - e < least) then restF p (if d.f1 - e > 0 then d.f1 - e else 0) d.f2 ds else restF p least d.f2 ds) else restF p least e ds
theorem most_f (a b : Int) : spec_l1Most.f a b = some (if a > b then a else b) := by
  unfold spec_l1Most.f; split <;> rfl
theorem rest_l0 (p : Int) (l : List S44) (hl : l.length ≤ 1099511627776) (hO : ∀ d ∈ l, dOk d) : ∀ (d i : Nat) (least e : Int), l.length - i = d → i ≤ l.length → -1 ≤ e → e ≤ 240 →
    Ev (fun k => spec_l25Rest.l0 k l p least e (i : Int)) (restF p least e (l.drop i)) := by
  intro d
  induction d with
  | zero =>
    intro i least e hd hi h1 h2
    refine Ev.step (fun k => by rw [spec_l25Rest.l0]) ?_
    refine Ev.neg (by omega) (Ev.const ?_)
    rw [List.drop_of_length_le (by omega)]
    rfl
  | succ d ih =>
    intro i least e hd hi h1 h2
    have hlt : i < l.length := by omega
    have ho := hO l[i] (List.getElem_mem _)
    unfold dOk at ho
    refine Ev.step (fun k => by rw [spec_l25Rest.l0]) ?_
    refine Ev.pos (by omega) (Ev.pos (by omega) ?_)
    rw [rdP_lt l i hlt, w64 (x := (i : Int) + 1) (by omega) (by omega), show (i : Int) + 1 = ((i + 1 : Nat) : Int) from by omega, drop_cons' l i hlt]
    simp only [restF]
    rw [w64 (x := l[i].f1 - e) (by omega) (by omega)]
    refine Ev.cases (fun hp => ?_) (fun hp => ?_)
    · rw [if_pos hp]
      refine Ev.cases (fun he => ?_) (fun he => ?_)
      · refine Ev.cases (fun hs => ?_) (fun hs => ?_)
        · rw [if_pos ⟨he, .inl hs⟩]
          refine Ev.bindc (most_f _ _) ?_
          exact ih (i + 1) _ _ (by omega) (by omega) (by omega) (by omega)
        · refine Ev.cases (fun hs2 => ?_) (fun hs2 => ?_)
          · rw [if_pos ⟨he, .inr hs2⟩]
            refine Ev.bindc (most_f _ _) ?_
            exact ih (i + 1) _ _ (by omega) (by omega) (by omega) (by omega)
          · rw [if_neg (by omega)]
            exact ih (i + 1) _ _ (by omega) (by omega) (by omega) (by omega)
      · rw [if_neg (by omega)]
        exact ih (i + 1) _ _ (by omega) (by omega) (by omega) (by omega)
    · rw [if_neg hp]
      exact ih (i + 1) _ _ (by omega) (by omega) (by omega) (by omega)
theorem restEv (p : Int) (l : List S44) (hl : l.length ≤ 1099511627776) (hO : ∀ d ∈ l, dOk d) : Ev (fun k => spec_l25Rest.f k l p) (restF p (-1) (-1) l) := by
  unfold spec_l25Rest.f
  exact rest_l0 p l hl hO _ 0 _ _ rfl (by omega) (by omega) (by omega)
theorem restF_low (p : Int) : ∀ (l : List S44) (least e : Int), 0 ≤ least → least < 11 → 0 ≤ restF p least e l ∧ restF p least e l < 11
  | [], least, e, h1, h2 => ⟨h1, h2⟩
  | d :: ds, least, e, h1, h2 => by
    simp only [restF]
    split
    · split
      · rename_i h
        exact restF_low p ds _ _ (by split <;> omega) (by split <;> omega)
      · exact restF_low p ds _ _ h1 h2
    · exact restF_low p ds _ _ h1 h2
theorem restF_iff (p : Int) : ∀ (l : List S44) (least e : Int), (least < 0 ∨ 11 ≤ least) → ((0 ≤ restF p least e l ∧ restF p least e l < 11) ↔ ¬ restOk p e l)
  | [], least, e, h => by simp [restF, restOk]; omega
  | d :: ds, least, e, h => by
    simp only [restF, restOk]
    by_cases hp : d.f0 = p
    · rw [if_pos hp, if_pos hp]
      by_cases he : 0 ≤ e
      · by_cases hr : d.f1 - e < 11
        · rw [if_pos ⟨he, by omega⟩]
          refine ⟨fun _ h2 => by have := h2.1 he; omega, fun _ => restF_low p ds _ _ (by split <;> omega) (by split <;> omega)⟩
        · have h2 : (0 ≤ e → e + 11 ≤ d.f1) := fun _ => by omega
          have ih := fun least' hl' => restF_iff p ds least' d.f2 hl'
          split
          · rw [ih _ (by split <;> omega)]
            exact ⟨fun h h3 => h h3.2, fun h h3 => h ⟨h2, h3⟩⟩
          · rw [ih _ h]
            exact ⟨fun h h3 => h h3.2, fun h h3 => h ⟨h2, h3⟩⟩
      · rw [if_neg (by omega), restF_iff p ds least d.f2 h]
        exact ⟨fun h h3 => h h3.2, fun h h3 => h ⟨fun h4 => absurd h4 he, h3⟩⟩
    · rw [if_neg hp, if_neg hp]
      exact restF_iff p ds least e h
theorem restOk_iff (p : Int) : ∀ (l : List S44) (e : Int), (∀ d ∈ l, dOk d) → (restOk p e l ↔ ((0 ≤ e → ∀ d ∈ l, d.f0 = p → e + 11 ≤ d.f1) ∧ l.Pairwise (fun a b => a.f0 = p → b.f0 = p → a.f2 + 11 ≤ b.f1)))
  | [], e, _ => by simp [restOk]
  | d :: ds, e, hO => by
    have hd := hO d (by simp)
    unfold dOk at hd
    have hO' : ∀ d ∈ ds, dOk d := fun x hx => hO x (by simp [hx])
    simp only [restOk, List.pairwise_cons]
    by_cases hp : d.f0 = p
    · rw [if_pos hp, restOk_iff p ds d.f2 hO']
      constructor
      · rintro ⟨h1, h2, h3⟩
        have h2' := h2 (by omega)
        refine ⟨fun he x hx hxp => ?_, fun x hx _ hxp => h2' x hx hxp, h3⟩
        rcases List.mem_cons.1 hx with rfl | hx
        · exact h1 he
        · have := h1 he; have := h2' x hx hxp; omega
      · rintro ⟨h1, h2, h3⟩
        exact ⟨fun he => h1 he d (by simp) hp, fun _ x hx hxp => h2 x hx hp hxp, h3⟩
    · rw [if_neg hp, restOk_iff p ds e hO']
      constructor
      · rintro ⟨h1, h2⟩
        refine ⟨fun he x hx hxp => ?_, fun x hx h => absurd h hp, h2⟩
        rcases List.mem_cons.1 hx with rfl | hx
        · exact absurd hxp hp
        · exact h1 he x hx hxp
      · rintro ⟨h1, _, h3⟩
        exact ⟨fun he x hx hxp => h1 he x (by simp [hx]) hxp, h3⟩
theorem rests_iff (l : List S44) (hO : ∀ d ∈ l, dOk d) : l.Pairwise dRest ↔ ∀ p : Int, 1 ≤ p → p ≤ 8 → restOk p (-1) l := by
  constructor
  · intro h p _ _
    rw [restOk_iff p l (-1) hO]
    exact ⟨fun h => by omega, h.imp fun h1 h2 h3 => h1 (h2.trans h3.symm)⟩
  · intro h
    rw [List.pairwise_iff_getElem]
    intro i j hi hj hij he
    have ho := hO l[i] (List.getElem_mem _)
    unfold dOk at ho
    have h1 := ((restOk_iff l[i].f0 l (-1) hO).1 (h _ (by omega) (by omega))).2
    exact List.pairwise_iff_getElem.1 h1 i j hi hj hij rfl he.symm
theorem good_l1 (l : List S44) (hl : l.length ≤ 1099511627776) (hR : Row1 l) : ∀ (d : Nat) (p : Int), (9 - p).toNat = d → 1 ≤ p → p ≤ 9 → (∀ q : Int, 1 ≤ q → q < p → restOk q (-1) l) →
    Ev (fun k => spec_l25Good.l1 k l p) (planB l) := by
  intro d
  induction d with
  | zero =>
    intro p hd h1 h2 hq
    refine Ev.step (fun k => by rw [spec_l25Good.l1]) ?_
    refine Ev.neg (by omega) (Ev.const ?_)
    congr 1
    rw [Bool.eq_iff_iff, planB_true]
    have := (rests_iff l hR.1).2 (fun q h3 h4 => hq q h3 (by omega))
    rw [decide_eq_true_eq]
    exact ⟨fun h => ⟨⟨hR.1, hR.2, this⟩, by omega⟩, fun h => by have := h.2; omega⟩
  | succ d ih =>
    intro p hd h1 h2 hq
    refine Ev.step (fun k => by rw [spec_l25Good.l1]) ?_
    refine Ev.pos (by omega) (Ev.bind (restEv p l hl hR.1) ?_)
    have hi := restF_iff p l (-1) (-1) (.inl (by omega))
    have hbad : (0 ≤ restF p (-1) (-1) l ∧ restF p (-1) (-1) l < 11) → planB l = false := fun h => planB_not fun hP => hi.1 h ((rests_iff l hR.1).1 hP.1.2.2 p h1 (by omega))
    have hgood : ¬ (0 ≤ restF p (-1) (-1) l ∧ restF p (-1) (-1) l < 11) → Ev (fun k => spec_l25Good.l1 k l (wrap64 (p + 1))) (planB l) := fun h => by
      rw [w64 (by omega) (by omega)]
      refine ih (p + 1) (by omega) (by omega) (by omega) (fun q h3 h4 => ?_)
      by_cases e : q = p
      · subst e; exact Classical.byContradiction fun hn => h (hi.2 hn)
      · exact hq q h3 (by omega)
    refine Ev.cases (fun h3 => ?_) (fun h3 => hgood (by omega))
    refine Ev.cases (fun h4 => Ev.const (by rw [hbad ⟨h3, h4⟩])) (fun h4 => hgood (by omega))
theorem good_l0 (l : List S44) (hl : l.length ≤ 1099511627776) : ∀ (d i : Nat), l.length - i = d → i ≤ l.length → Row1 (l.take i) →
    Ev (fun k => spec_l25Good.l0 k l (i : Int)) (planB l) := by
  intro d
  induction d with
  | zero =>
    intro i hd hi hR
    obtain rfl : i = l.length := by omega
    rw [List.take_length] at hR
    refine Ev.step (fun k => by rw [spec_l25Good.l0]) ?_
    exact Ev.neg (by omega) (good_l1 l hl hR _ 1 rfl (by omega) (by omega) (fun q h1 h2 => by omega))
  | succ d ih =>
    intro i hd hi hR
    have hlt : i < l.length := by omega
    refine Ev.step (fun k => by rw [spec_l25Good.l0]) ?_
    refine Ev.pos (by omega) (Ev.pos (by omega) ?_)
    rw [rdP_lt l i hlt]
    have hno : ∀ x : Bool, (¬ Plan l) → x = true → Ev (fun k => spec_l25Good.j1 k l (i : Int) x l[i].f0 l[i].f1 l[i].f2) (planB l) := fun x hn hx => by
      subst hx
      refine Ev.step (fun k => by rw [spec_l25Good.j1]) ?_
      rw [planB_not hn]
      exact Ev.pos rfl (Ev.now _)
    refine Ev.bindc (b := decide (1 ≤ l[i].f0 ∧ l[i].f0 ≤ 8)) (by unfold spec_l25Person.f; rw [l1In_f]; rfl) ?_
    refine Ev.cases (fun h1 => ?_) (fun h1 => hno _ (fun hP => ?_) rfl)
    rotate_left
    · have := plan_dOk hP hlt; unfold dOk at this; simp at h1; omega
    have h1' : 1 ≤ l[i].f0 ∧ l[i].f0 ≤ 8 := of_decide_eq_true h1
    refine Ev.cases (fun h2 => hno _ (fun hP => ?_) rfl) (fun h2 => ?_)
    · have := plan_dOk hP hlt; unfold dOk at this; omega
    refine Ev.cases (fun h3 => hno _ (fun hP => ?_) rfl) (fun h3 => ?_)
    · have := plan_dOk hP hlt; unfold dOk at this; omega
    refine Ev.cases (fun h4 => hno _ (fun hP => ?_) rfl) (fun h4 => ?_)
    · have := plan_dOk hP hlt; unfold dOk at this; omega
    rw [w64 (x := l[i].f2 - l[i].f1) (by omega) (by omega)]
    by_cases h5 : l[i].f2 - l[i].f1 > 12
    · exact hno _ (fun hP => by have := plan_dOk hP hlt; unfold dOk at this; omega) (decide_eq_true h5)
    rw [decide_eq_false h5]
    have ho : dOk l[i] := by unfold dOk; omega
    have hyes : (∀ (hp : 0 < i), dLt (l[i - 1]'(by omega)) l[i]) → Ev (fun k => spec_l25Good.l0 k l (wrap64 ((i : Int) + 1))) (planB l) := fun h0 => by
      rw [w64 (by omega) (by omega), show (i : Int) + 1 = ((i + 1 : Nat) : Int) from by omega]
      exact ih (i + 1) (by omega) (by omega) (row1_step hlt hR ho h0)
    refine Ev.step (fun k => by rw [spec_l25Good.j1]) ?_
    refine Ev.neg (by decide) (Ev.cases (fun hp => ?_) (fun hp => hyes (fun h => by omega)))
    have hpi : 0 < i := by omega
    have ew : wrap64 ((i : Int) - 1) = ((i - 1 : Nat) : Int) := by rw [w64 (by omega) (by omega)]; omega
    rw [ew, rdP_lt l (i - 1) (by omega)]
    have hbad : ¬ dLt (l[i - 1]'(by omega)) l[i] → planB l = false := fun h => planB_not fun hP => h (plan_order hP.1.2.1 hlt hpi)
    refine Ev.pos (by omega) (Ev.pos (by omega) ?_)
    refine Ev.cases (fun h6 => Ev.const (by rw [hbad (by unfold dLt; omega)])) (fun h6 => ?_)
    refine Ev.cases (fun h7 => ?_) (fun h7 => hyes (fun _ => by unfold dLt; omega))
    exact Ev.cases (fun h8 => Ev.const (by rw [hbad (by unfold dLt; omega)])) (fun h8 => hyes (fun _ => by unfold dLt; omega))
theorem specGood (l : List S44) (hl : l.length ≤ 1099511627776) : Ev (fun k => spec_l25Good.f k l) (planB l) := by
  unfold spec_l25Good.f
  exact good_l0 l hl _ 0 rfl (by omega) ⟨by simp, by simp⟩
end Go.Proofs.Ythhjhbndnipdgaa.Pure

/- The hours of a person's duties and the shortest rest between them: the program's loops and the reference's. -/
namespace Go.Proofs.Ythhjhbndnipdgaa.Pure
open Go.RowKit Go.Proofs.Ythhjhbndnipdgaa.P Go.Proofs.YthhjhbndnipdgaaW.PrintWords Go.Proofs.YthhjhbndnipdgaaW.PrintLast
set_option linter.unusedVariables false

def sumH (p : Int) : List S44 → Int
  | [] => 0
  | d :: ds => (if d.f0 = p then d.f2 - d.f1 else 0) + sumH p ds
theorem sumH_bounds (p : Int) : ∀ (l : List S44), (∀ d ∈ l, dOk d) → 0 ≤ sumH p l ∧ sumH p l ≤ 12 * l.length
  | [], _ => by simp [sumH]
  | d :: ds, h => by
    have h1 := sumH_bounds p ds (fun x hx => h x (by simp [hx]))
    have h2 := h d (by simp)
    unfold dOk at h2
    simp only [sumH, List.length_cons]
    split <;> omega
open Classical in
noncomputable def dutyHoursT (l : List S44) (p : Int) : Int × Bool := if planB l = true ∧ 1 ≤ p ∧ p ≤ 8 then (sumH p l, true) else (0, false)
theorem hours_l0 (p : Int) (l : List S44) (hl : l.length ≤ 20) (hO : ∀ d ∈ l, dOk d) : ∀ (d i : Nat) (acc : Int), l.length - i = d → i ≤ l.length → 0 ≤ acc → acc ≤ 12 * i →
    Ev (fun k => impl_DutyHours.l0 k p acc l (l.length : Int) (i : Int)) (acc + sumH p (l.drop i), true) := by
  intro d
  induction d with
  | zero =>
    intro i acc hd hi h1 h2
    refine Ev.step (fun k => by rw [impl_DutyHours.l0]) ?_
    refine Ev.neg (by omega) (Ev.const ?_)
    rw [List.drop_of_length_le (by omega)]; simp [sumH]
  | succ d ih =>
    intro i acc hd hi h1 h2
    have hlt : i < l.length := by omega
    have ho := hO l[i] (List.getElem_mem _)
    unfold dOk at ho
    refine Ev.step (fun k => by rw [impl_DutyHours.l0]) ?_
    refine Ev.pos (by omega) (Ev.pos (by omega) (Ev.pos (by omega) ?_))
    rw [rdP_lt l i hlt, w64 (x := (i : Int) + 1) (by omega) (by omega), show (i : Int) + 1 = ((i + 1 : Nat) : Int) from by omega, drop_cons' l i hlt, w64 (x := l[i].f2 - l[i].f1) (by omega) (by omega), w64 (x := acc + (l[i].f2 - l[i].f1)) (by omega) (by omega)]
    simp only [sumH]
    refine Ev.cases (fun hp => ?_) (fun hp => ?_)
    · rw [if_pos hp]
      exact Ev.eq (ih (i + 1) _ (by omega) (by omega) (by omega) (by omega)) (by congr 1; omega)
    · rw [if_neg hp]
      exact Ev.eq (ih (i + 1) _ (by omega) (by omega) (by omega) (by omega)) (by congr 1; omega)
theorem hoursS_l0 (p : Int) (l : List S44) (hl : l.length ≤ 20) (hO : ∀ d ∈ l, dOk d) : ∀ (d i : Nat) (acc : Int), l.length - i = d → i ≤ l.length → 0 ≤ acc → acc ≤ 12 * i →
    Ev (fun k => spec_DutyHours.l0 k l p acc (i : Int)) (acc + sumH p (l.drop i), true) := by
  intro d
  induction d with
  | zero =>
    intro i acc hd hi h1 h2
    refine Ev.step (fun k => by rw [spec_DutyHours.l0]) ?_
    refine Ev.neg (by omega) (Ev.const ?_)
    rw [List.drop_of_length_le (by omega)]; simp [sumH]
  | succ d ih =>
    intro i acc hd hi h1 h2
    have hlt : i < l.length := by omega
    have ho := hO l[i] (List.getElem_mem _)
    unfold dOk at ho
    refine Ev.step (fun k => by rw [spec_DutyHours.l0]) ?_
    refine Ev.pos (by omega) (Ev.pos (by omega) ?_)
    rw [rdP_lt l i hlt, w64 (x := (i : Int) + 1) (by omega) (by omega), show (i : Int) + 1 = ((i + 1 : Nat) : Int) from by omega, drop_cons' l i hlt, w64 (x := acc + l[i].f2) (by omega) (by omega), w64 (x := acc + l[i].f2 - l[i].f1) (by omega) (by omega)]
    simp only [sumH]
    refine Ev.cases (fun hp => ?_) (fun hp => ?_)
    · rw [if_pos hp]
      exact Ev.eq (ih (i + 1) _ (by omega) (by omega) (by omega) (by omega)) (by congr 1; omega)
    · rw [if_neg hp]
      exact Ev.eq (ih (i + 1) _ (by omega) (by omega) (by omega) (by omega)) (by congr 1; omega)
theorem dutyHours_impl (l : List S44) (p : Int) (hl : l.length ≤ 1099511627776) : Ev (fun k => impl_DutyHours.f k l p) (dutyHoursT l p) := by
  unfold impl_DutyHours.f dutyHoursT
  have hbad : ∀ x, x = true → Ev (fun k => impl_DutyHours.j0 k l p x) (0, false) := fun x hx => by
    subst hx
    refine Ev.step (fun k => by rw [impl_DutyHours.j0]) ?_
    exact Ev.pos rfl (Ev.now _)
  refine Ev.bind (isValidPlan l hl) (Ev.cases (fun h1 => ?_) (fun h1 => ?_))
  · refine Ev.bindc (within_f _ _ _) ?_
    by_cases h2 : 1 ≤ p ∧ p ≤ 8
    · rw [decide_eq_true h2, if_pos ⟨h1, h2⟩]
      have hP := planB_true.1 h1
      refine Ev.step (fun k => by rw [impl_DutyHours.j0]) ?_
      refine Ev.neg (by decide) ?_
      have h := hours_l0 p l hP.2 hP.1.1 _ 0 0 rfl (by omega) (by omega) (by omega)
      simpa using h
    · rw [decide_eq_false h2, if_neg (fun h => h2 h.2)]
      exact hbad _ rfl
  · rw [if_neg (fun h => h1 h.1)]
    exact hbad _ rfl
theorem dutyHours_spec (l : List S44) (p : Int) (hl : l.length ≤ 1099511627776) : Ev (fun k => spec_DutyHours.f k l p) (dutyHoursT l p) := by
  unfold spec_DutyHours.f dutyHoursT
  have hbad : ∀ x, x = true → Ev (fun k => spec_DutyHours.j0 k l p x) (0, false) := fun x hx => by
    subst hx
    refine Ev.step (fun k => by rw [spec_DutyHours.j0]) ?_
    exact Ev.pos rfl (Ev.now _)
  refine Ev.bind (specGood l hl) (Ev.cases (fun h1 => ?_) (fun h1 => ?_))
  · refine Ev.bindc (b := decide (1 ≤ p ∧ p ≤ 8)) (by unfold spec_l25Person.f; rw [l1In_f]; rfl) ?_
    by_cases h2 : 1 ≤ p ∧ p ≤ 8
    · rw [decide_eq_true h2, if_pos ⟨h1, h2⟩]
      have hP := planB_true.1 h1
      refine Ev.step (fun k => by rw [spec_DutyHours.j0]) ?_
      refine Ev.neg (by decide) ?_
      have h := hoursS_l0 p l hP.2 hP.1.1 _ 0 0 rfl (by omega) (by omega) (by omega)
      simpa using h
    · rw [decide_eq_false h2, if_neg (fun h => h2 h.2)]
      exact hbad _ rfl
  · rw [if_neg (fun h => h1 h.1)]
    exact hbad _ rfl

/-! ### the shortest rest -/
noncomputable def restT (l : List S44) (p : Int) : Int × Bool := if planB l = true ∧ 1 ≤ p ∧ p ≤ 8 ∧ 0 ≤ restF p (-1) (-1) l then (restF p (-1) (-1) l, true) else (0, false)
def restA (r : Int) : Int × Bool := if r < 0 then (0, false) else (r, true)
theorem short_l0 (p : Int) (l : List S44) (hl : l.length ≤ 20) (hO : ∀ d ∈ l, dOk d) : ∀ (d i : Nat) (least e : Int), l.length - i = d → i ≤ l.length → -1 ≤ e → e ≤ 240 → restOk p e (l.drop i) →
    Ev (fun k => impl_ShortestRest.l0 k p least e l (l.length : Int) (i : Int)) (restA (restF p least e (l.drop i))) := by
  intro d
  induction d with
  | zero =>
    intro i least e hd hi h1 h2 hr
    refine Ev.step (fun k => by rw [impl_ShortestRest.l0]) ?_
    refine Ev.neg (by omega) ?_
    rw [List.drop_of_length_le (by omega)]
    simp only [restF]
    refine Ev.cases (fun h => Ev.const ?_) (fun h => Ev.const ?_)
    · unfold restA; rw [if_pos h]
    · unfold restA; rw [if_neg h]
  | succ d ih =>
    intro i least e hd hi h1 h2 hr
    have hlt : i < l.length := by omega
    have ho := hO l[i] (List.getElem_mem _)
    unfold dOk at ho
    refine Ev.step (fun k => by rw [impl_ShortestRest.l0]) ?_
    refine Ev.pos (by omega) (Ev.pos (by omega) (Ev.pos (by omega) ?_))
    rw [drop_cons' l i hlt] at hr
    simp only [restOk] at hr
    rw [rdP_lt l i hlt, w64 (x := (i : Int) + 1) (by omega) (by omega), show (i : Int) + 1 = ((i + 1 : Nat) : Int) from by omega, drop_cons' l i hlt, w64 (x := l[i].f1 - e) (by omega) (by omega)]
    simp only [restF]
    refine Ev.cases (fun hp => ?_) (fun hp => ?_)
    · rw [if_pos hp] at hr
      rw [if_pos hp]
      refine Ev.cases (fun he => ?_) (fun he => ?_)
      · have h3 := hr.1 he
        rw [if_pos (show l[i].f1 - e > 0 by omega)]
        refine Ev.cases (fun hs => ?_) (fun hs => ?_)
        · rw [if_pos ⟨he, .inl hs⟩]
          exact ih (i + 1) _ _ (by omega) (by omega) (by omega) (by omega) hr.2
        · refine Ev.cases (fun hs2 => ?_) (fun hs2 => ?_)
          · rw [if_pos ⟨he, .inr hs2⟩]
            exact ih (i + 1) _ _ (by omega) (by omega) (by omega) (by omega) hr.2
          · rw [if_neg (by omega)]
            exact ih (i + 1) _ _ (by omega) (by omega) (by omega) (by omega) hr.2
      · rw [if_neg (by omega)]
        exact ih (i + 1) _ _ (by omega) (by omega) (by omega) (by omega) hr.2
    · rw [if_neg hp] at hr
      rw [if_neg hp]
      exact ih (i + 1) _ _ (by omega) (by omega) (by omega) (by omega) hr
theorem rest_impl (l : List S44) (p : Int) (hl : l.length ≤ 1099511627776) : Ev (fun k => impl_ShortestRest.f k l p) (restT l p) := by
  unfold impl_ShortestRest.f restT
  have hbad : ∀ x, x = true → Ev (fun k => impl_ShortestRest.j0 k l p x) (0, false) := fun x hx => by
    subst hx
    refine Ev.step (fun k => by rw [impl_ShortestRest.j0]) ?_
    exact Ev.pos rfl (Ev.now _)
  refine Ev.bind (isValidPlan l hl) (Ev.cases (fun h1 => ?_) (fun h1 => ?_))
  · refine Ev.bindc (within_f _ _ _) ?_
    by_cases h2 : 1 ≤ p ∧ p ≤ 8
    · rw [decide_eq_true h2]
      have hP := planB_true.1 h1
      refine Ev.step (fun k => by rw [impl_ShortestRest.j0]) ?_
      refine Ev.neg (by decide) ?_
      have h := short_l0 p l hP.2 hP.1.1 _ 0 (-1) (-1) rfl (by omega) (by omega) (by omega) (by simpa using (rests_iff l hP.1.1).1 hP.1.2.2 p h2.1 h2.2)
      rw [List.drop_zero] at h
      refine Ev.eq h ?_
      unfold restA
      by_cases h3 : restF p (-1) (-1) l < 0
      · rw [if_pos h3, if_neg (by omega)]
      · rw [if_neg h3, if_pos ⟨h1, h2.1, h2.2, by omega⟩]
    · rw [decide_eq_false h2, if_neg (fun h => h2 ⟨h.2.1, h.2.2.1⟩)]
      exact hbad _ rfl
  · rw [if_neg (fun h => h1 h.1)]
    exact hbad _ rfl
theorem rest_spec (l : List S44) (p : Int) (hl : l.length ≤ 1099511627776) : Ev (fun k => spec_ShortestRest.f k l p) (restT l p) := by
  unfold spec_ShortestRest.f restT
  refine Ev.bind (specGood l hl) (Ev.cases (fun h1 => ?_) (fun h1 => ?_))
  · refine Ev.bindc (b := decide (1 ≤ p ∧ p ≤ 8)) (by unfold spec_l25Person.f; rw [l1In_f]; rfl) ?_
    have hP := planB_true.1 h1
    by_cases h2 : 1 ≤ p ∧ p ≤ 8
    · have hr := restEv p l hl hP.1.1
      refine Ev.pos (decide_eq_true h2) (Ev.bind hr (Ev.cases (fun h3 => ?_) (fun h3 => ?_)))
      · rw [if_neg (by omega)]; exact Ev.now _
      · rw [if_pos ⟨h1, h2.1, h2.2, by omega⟩]; exact Ev.bind hr (Ev.now _)
    · rw [if_neg (fun h => h2 ⟨h.2.1, h.2.2.1⟩)]
      exact Ev.neg (by simpa using h2) (Ev.now _)
  · rw [if_neg (fun h => h1 h.1)]
    exact Ev.now _
end Go.Proofs.Ythhjhbndnipdgaa.Pure

namespace Go.Proofs.Ythhjhbndnipdgaa.Pure
open Go.RowKit Go.Proofs.Ythhjhbndnipdgaa.P Go.Proofs.YthhjhbndnipdgaaW.PrintWords Go.Proofs.YthhjhbndnipdgaaW.PrintLast
set_option linter.unusedVariables false

theorem FnExactShortestRest (l : List S41) (p : Int) (hm0 : l.length ≤ maxLen) (_ : ∀ z ∈ l, (Lit.int .i64 z.f0).wf = true ∧ (Lit.int .i64 z.f1).wf = true ∧ (Lit.int .i64 z.f2).wf = true) (_ : (Lit.int .i64 p).wf = true) : ∃ k, laws_FnExactShortestRest.f k l p = some true := by
  have hm : l.length ≤ 9223372036854775807 := Nat.le_trans hm0 (by decide)
  apply Ev.rounds
  unfold laws_FnExactShortestRest.f
  obtain ⟨t, ht, hl⟩ := szDuty_f l hm
  refine Ev.bindc ht (Ev.cases (fun _ => Ev.now _) (fun ht0 => ?_))
  have hl := hl ht0
  have td := toDutyS l hl
  have hlen : (l.map convD).length ≤ 1048576 := by simpa using hl
  have sp := rest_spec (l.map convD) p (by omega)
  have im := rest_impl (l.map convD) p (by omega)
  have eq := eqDuty_refl (l.map convD) (by omega)
  refine Ev.bind td (Ev.bind sp (Ev.bind td (Ev.bind im (Ev.pos rfl ?_))))
  refine Ev.step (fun k => by rw [laws_FnExactShortestRest.j0]) ?_
  exact Ev.neg (by simp) (Ev.bind td (Ev.bind eq (Ev.pos rfl (Ev.now _))))
end Go.Proofs.Ythhjhbndnipdgaa.Pure
