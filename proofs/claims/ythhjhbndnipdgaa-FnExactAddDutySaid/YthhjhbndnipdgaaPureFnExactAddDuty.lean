/- The program's AddDuty returns what the reference's returns, for all arguments. Conditions: none beyond the given statement's. -/
import Derived.Test.YthhjhbndnipdgaaPx0
import Derived.Test.YthhjhbndnipdgaaPx9
import Derived.Test.YthhjhbndnipdgaaPx10
import Derived.Test.YthhjhbndnipdgaaPx25
import Derived.Test.YthhjhbndnipdgaaPx8
import Derived.Test.YthhjhbndnipdgaaPx6
import Derived.Test.YthhjhbndnipdgaaPx13
import Derived.Test.YthhjhbndnipdgaaPx11
import Derived.Test.YthhjhbndnipdgaaPx20
import Derived.Test.YthhjhbndnipdgaaPx26
import Derived.Test.YthhjhbndnipdgaaPx41
/- Small laws on "with enough rounds the function answers r" (Ev) and on wrapping sums; used by every plain law of this seat. -/
namespace Go.Proofs.Ythhjhbndnipdgaa.Pure
open Go.RowKit Go.Proofs.YthhjhbndnipdgaaW.PrintWords Go.Proofs.YthhjhbndnipdgaaW.PrintLast

section
variable {α β : Type} {r : α} {f g : Nat → Option α}
theorem Ev.pos {c : Prop} [Decidable c] (h : c) (e : Ev f r) : Ev (fun k => if c then f k else g k) r := e.congr fun _ => if_pos h
theorem Ev.neg {c : Prop} [Decidable c] (h : ¬ c) (e : Ev g r) : Ev (fun k => if c then f k else g k) r := e.congr fun _ => if_neg h
theorem Ev.const {a : Option α} (h : a = some r) : Ev (fun _ => a) r := ⟨0, fun _ _ => h⟩
theorem Ev.bindc {a : Option β} {b : β} {f : Nat → β → Option α} (h : a = some b) (k : Ev (fun n => f n b) r) : Ev (fun n => a.bind (f n)) r := Ev.bind (Ev.const h) k
theorem Ev.eq {r' : α} (h : Ev f r) (e : r = r') : Ev f r' := e ▸ h
theorem Ev.cases {c : Prop} [Decidable c] (h1 : c → Ev f r) (h2 : ¬ c → Ev g r) : Ev (fun k => if c then f k else g k) r := by
  by_cases h : c
  · exact Ev.pos h (h1 h)
  · exact Ev.neg h (h2 h)
/-- Two answers of one function are one. -/
theorem Ev.uniq {r' : α} (h : Ev f r) (h' : Ev f r') : r = r' := by
  obtain ⟨K, hK⟩ := h
  obtain ⟨K', hK'⟩ := h'
  have a := hK (max K K') (Nat.le_max_left _ _)
  have b := hK' (max K K') (Nat.le_max_right _ _)
  rw [a] at b
  exact Option.some.inj b
end

theorem w64 {x : Int} (h1 : -9223372036854775808 ≤ x) (h2 : x ≤ 9223372036854775807) : wrap64 x = x := by unfold wrap64; omega

theorem rd_nat (l : List Int) (i : Nat) : rd l (i : Int) = l.getD i 0 := by simp [rd]
theorem rd_lt (l : List Int) (i : Nat) (h : i < l.length) : rd l (i : Int) = l[i] := by simp [rd, h]
theorem take_succ' {α : Type} (l : List α) (i : Nat) (h : i < l.length) : l.take (i + 1) = l.take i ++ [l[i]] := by
  rw [List.take_succ_eq_append_getElem h]
theorem drop_cons' {α : Type} (l : List α) (i : Nat) (h : i < l.length) : l.drop i = l[i] :: l.drop (i + 1) := List.drop_eq_getElem_cons h
end Go.Proofs.Ythhjhbndnipdgaa.Pure

/- The laws' own helpers on lists of duties: a copy, an equality, marks and their check. -/
namespace Go.Proofs.Ythhjhbndnipdgaa.Pure
open Go.RowKit Go.Proofs.Ythhjhbndnipdgaa.P Go.Proofs.YthhjhbndnipdgaaW.PrintWords Go.Proofs.YthhjhbndnipdgaaW.PrintLast
set_option linter.unusedVariables false

def convD (z : S41) : S44 := ⟨z.f0, z.f1, z.f2⟩
theorem rdD_lt (l : List S44) (i : Nat) (h : i < l.length) : rd_T44 l (i : Int) = l[i] := by simp [rd_T44, h]
theorem rdD0_lt (l : List S41) (i : Nat) (h : i < l.length) : rd_T41 l (i : Int) = l[i] := by simp [rd_T41, h]
theorem toDutyS_l0 (l : List S41) (hl : l.length ≤ 1048576) : ∀ (d i : Nat) (o : List S44), l.length - i = d → i ≤ l.length → o.length = l.length → o.take i = (l.map convD).take i →
    Ev (fun k => laws_toDutyS.l0 k l o (i : Int)) (l.map convD) := by
  intro d
  induction d with
  | zero =>
    intro i o hd hi ho ht
    refine Ev.step (fun k => by rw [laws_toDutyS.l0]) ?_
    refine Ev.neg (by omega) (Ev.const ?_)
    have hi' : i = l.length := by omega
    subst hi'
    rw [List.take_of_length_le (by omega), List.take_of_length_le (by simp)] at ht
    rw [ht]
  | succ d ih =>
    intro i o hd hi ho ht
    refine Ev.step (fun k => by rw [laws_toDutyS.l0]) ?_
    refine Ev.pos (by omega) (Ev.pos (by omega) ?_)
    refine Ev.bindc (b := (l[i].f0, l[i].f1, l[i].f2)) (by rw [rdD0_lt l i (by omega)]; rfl) (Ev.pos (by omega) ?_)
    rw [w64 (by omega) (by omega), show (i : Int) + 1 = ((i + 1 : Nat) : Int) from by omega]
    refine ih (i + 1) _ (by omega) (by omega) (by simpa using ho) ?_
    rw [Int.toNat_natCast, take_succ' _ _ (by simp; omega), take_succ' (l.map convD) _ (by simp; omega)]
    rw [List.take_set_of_le (Nat.le_refl i), ht]; simp [convD]
theorem toDutyS (l : List S41) (hl : l.length ≤ 1048576) : Ev (fun k => laws_toDutyS.f k l) (l.map convD) := by
  unfold laws_toDutyS.f
  refine Ev.pos (by omega) (Ev.pos (by omega) ?_)
  exact toDutyS_l0 l hl _ 0 _ rfl (by omega) (by simp) (by simp)
theorem szDuty_f (l : List S41) (hm : l.length ≤ 9223372036854775807) : ∃ t, laws_szDutyS.f l 1048576 = some t ∧ (¬ t < 0 → l.length ≤ 1048576) := by
  unfold laws_szDutyS.f
  have hw : wrap64 (1048576 - (l.length : Int)) = 1048576 - (l.length : Int) := by unfold wrap64; omega
  rw [hw]
  by_cases h : 1048576 - (l.length : Int) < 0
  · rw [if_pos h]; exact ⟨_, rfl, by omega⟩
  · rw [if_neg h]; exact ⟨_, rfl, by omega⟩
theorem eqDuty_l0 (a : List S44) (hl : a.length ≤ 4611686018427387904) : ∀ (d i : Nat), a.length - i = d → i ≤ a.length → Ev (fun k => laws_eqDutyS.l0 k a a (i : Int)) true := by
  intro d
  induction d with
  | zero =>
    intro i hd hi
    refine Ev.step (fun k => by rw [laws_eqDutyS.l0]) ?_
    exact Ev.neg (by omega) (Ev.now _)
  | succ d ih =>
    intro i hd hi
    refine Ev.step (fun k => by rw [laws_eqDutyS.l0]) ?_
    refine Ev.pos (by omega) (Ev.pos (by omega) (Ev.pos (by omega) ?_))
    refine Ev.bindc (b := true) (by unfold laws_eqDuty.f; simp) (Ev.pos rfl ?_)
    rw [w64 (by omega) (by omega), show (i : Int) + 1 = ((i + 1 : Nat) : Int) from by omega]
    exact ih (i + 1) (by omega) (by omega)
theorem eqDuty_refl (a : List S44) (hl : a.length ≤ 4611686018427387904) : Ev (fun k => laws_eqDutyS.f k a a) true := by
  unfold laws_eqDutyS.f
  exact Ev.pos rfl (eqDuty_l0 a hl _ 0 rfl (by omega))
def marked : List S44 → Int → List S44
  | [], _ => []
  | _ :: xs, k => ⟨k, k + 1, k + 2⟩ :: marked xs (k + 3)
theorem marked_len : ∀ (l : List S44) (k : Int), (marked l k).length = l.length
  | [], _ => rfl
  | _ :: xs, k => by simp [marked, marked_len xs]
theorem marked_snoc : ∀ (l : List S44) (x : S44) (k : Int), marked (l ++ [x]) k = marked l k ++ [⟨k + 3 * l.length, k + 3 * l.length + 1, k + 3 * l.length + 2⟩]
  | [], x, k => by simp [marked]
  | y :: ys, x, k => by
    simp only [List.cons_append, marked, marked_snoc ys x (k + 3)]
    congr 2
    simp; omega
theorem markD_l0 (l : List S44) (a : Int) (ha : 0 ≤ a) (hb : a ≤ 1048576) (hl : l.length ≤ 4611686018427) : ∀ (d i : Nat), l.length - i = d → i ≤ l.length →
    Ev (fun k => laws_markDutyS.l0 k (marked (l.take i) a ++ l.drop i) (a + 3 * i) (i : Int)) (a + 3 * l.length, marked l a) := by
  intro d
  induction d with
  | zero =>
    intro i hd hi
    obtain rfl : i = l.length := by omega
    refine Ev.step (fun k => by rw [laws_markDutyS.l0]) ?_
    refine Ev.neg (by simp [marked_len]) (Ev.const ?_)
    simp
  | succ d ih =>
    intro i hd hi
    have hlt : i < l.length := by omega
    have hml : (marked (l.take i) a).length = i := by rw [marked_len]; simp; omega
    refine Ev.step (fun k => by rw [laws_markDutyS.l0]) ?_
    rw [List.drop_eq_getElem_cons hlt]
    refine Ev.pos (by simp [hml]; omega) (Ev.pos (by omega) ?_)
    simp only [Option.bind_some, Int.toNat_natCast]
    have hset : ∀ x y : S44, (marked (l.take i) a ++ x :: l.drop (i + 1)).set i y = marked (l.take i) a ++ y :: l.drop (i + 1) := fun x y => by
      rw [List.set_append_right _ _ (by omega), hml, Nat.sub_self]; rfl
    have hrd : ∀ x : S44, rd_T44 (marked (l.take i) a ++ x :: l.drop (i + 1)) (i : Int) = x := fun x => by
      rw [rdD_lt _ _ (by simp [hml]), List.getElem_append_right (by omega)]; simp [hml]
    simp only [hset, hrd]
    have e1 : wrap64 (a + 3 * (i : Int) + 1) = a + 3 * i + 1 := w64 (by omega) (by omega)
    have e2 : wrap64 (a + 3 * (i : Int) + 1 + 1) = a + 3 * i + 2 := by rw [w64 (by omega) (by omega)]; omega
    have e3 : wrap64 (a + 3 * (i : Int) + 2 + 1) = a + 3 * ((i + 1 : Nat) : Int) := by rw [w64 (by omega) (by omega)]; omega
    rw [e1, e2, e3, w64 (x := (i : Int) + 1) (by omega) (by omega), show (i : Int) + 1 = ((i + 1 : Nat) : Int) from by omega]
    have h1 := ih (i + 1) (by omega) (by omega)
    rw [take_succ' _ _ hlt, marked_snoc, List.append_assoc, List.length_take, Nat.min_eq_left (by omega)] at h1
    exact h1
theorem markDuty (l : List S44) (a : Int) (ha : 0 ≤ a) (hb : a ≤ 1048576) (hl : l.length ≤ 4611686018427) : Ev (fun k => laws_markDutyS.f k l a) (a + 3 * l.length, marked l a) := by
  unfold laws_markDutyS.f
  have h := markD_l0 l a ha hb hl _ 0 rfl (by omega)
  simpa [marked] using h
theorem heldD_l0 (a : Int) (ha : 0 ≤ a) (hb : a ≤ 1048576) (l : List S44) (hl : l.length ≤ 4611686018427) : ∀ (d i : Nat), l.length - i = d → i ≤ l.length →
    Ev (fun k => laws_heldDutyS.l0 k (marked l a) (a + 3 * i) (i : Int)) (a + 3 * l.length) := by
  intro d
  induction d with
  | zero =>
    intro i hd hi
    obtain rfl : i = l.length := by omega
    refine Ev.step (fun k => by rw [laws_heldDutyS.l0]) ?_
    exact Ev.neg (by simp [marked_len]) (Ev.now _)
  | succ d ih =>
    intro i hd hi
    have hlt : i < l.length := by omega
    refine Ev.step (fun k => by rw [laws_heldDutyS.l0]) ?_
    have hml := marked_len l a
    have hel : rd_T44 (marked l a) (i : Int) = ⟨a + 3 * i, a + 3 * i + 1, a + 3 * i + 2⟩ := by
      rw [rdD_lt _ _ (by omega)]
      have h1 : marked l a = marked (l.take i ++ [l[i]]) a ++ marked (l.drop (i + 1)) (a + 3 * (i + 1 : Nat)) := by
        have : ∀ (xs ys : List S44) (k : Int), marked (xs ++ ys) k = marked xs k ++ marked ys (k + 3 * xs.length) := by
          intro xs
          induction xs with
          | nil => intro ys k; simp [marked]
          | cons x xs ihx =>
            intro ys k
            simp only [List.cons_append, marked, ihx]
            congr 3
            simp; omega
        conv => lhs; rw [← List.take_append_drop (i + 1) l]
        rw [this, take_succ' _ _ hlt]
        congr 3
        simp; omega
      have h2 : (marked l a)[i]? = some ⟨a + 3 * i, a + 3 * i + 1, a + 3 * i + 2⟩ := by
        rw [h1, marked_snoc, List.append_assoc, List.getElem?_append_right (by rw [marked_len]; simp; omega)]
        rw [marked_len, List.length_take, Nat.min_eq_left (by omega), Nat.sub_self]
        rfl
      rw [List.getElem?_eq_getElem (by omega)] at h2
      exact Option.some.inj h2
    rw [hel]
    have e1 : wrap64 (a + 3 * (i : Int) + 1) = a + 3 * i + 1 := w64 (by omega) (by omega)
    have e2 : wrap64 (a + 3 * (i : Int) + 1 + 1) = a + 3 * i + 2 := by rw [w64 (by omega) (by omega)]; omega
    have e3 : wrap64 (a + 3 * (i : Int) + 2 + 1) = a + 3 * ((i + 1 : Nat) : Int) := by rw [w64 (by omega) (by omega)]; omega
    rw [e1, e2, e3, w64 (x := (i : Int) + 1) (by omega) (by omega), show (i : Int) + 1 = ((i + 1 : Nat) : Int) from by omega]
    exact Ev.pos (by omega) (Ev.pos (by omega) (Ev.pos rfl (Ev.pos rfl (Ev.pos rfl (ih (i + 1) (by omega) (by omega))))))
theorem heldDuty (l : List S44) (a : Int) (ha : 0 ≤ a) (hb : a ≤ 1048576) (hl : l.length ≤ 4611686018427) : Ev (fun k => laws_heldDutyS.f k (marked l a) a) (a + 3 * l.length) := by
  unfold laws_heldDutyS.f
  have h := heldD_l0 a ha hb l hl _ 0 rfl (by omega)
  simpa using h
end Go.Proofs.Ythhjhbndnipdgaa.Pure

/- What a plan is, and that the program and the reference both say so. -/
namespace Go.Proofs.Ythhjhbndnipdgaa.Pure
open Go.RowKit Go.Proofs.Ythhjhbndnipdgaa.P Go.Proofs.YthhjhbndnipdgaaW.PrintWords Go.Proofs.YthhjhbndnipdgaaW.PrintLast
set_option linter.unusedVariables false

/-- Two lists that rise strictly and have the same members are one. -/
theorem strict_ext {α : Type} (R : α → α → Prop) (asym : ∀ a b, R a b → ¬ R b a) : ∀ a b : List α, a.Pairwise R → b.Pairwise R → (∀ x, x ∈ a ↔ x ∈ b) → a = b
  | [], b, _, _, h => by
    cases b with
    | nil => rfl
    | cons y ys => exact absurd ((h y).2 (by simp)) (by simp)
  | x :: xs, b, ha, hb, h => by
    cases b with
    | nil => exact absurd ((h x).1 (by simp)) (by simp)
    | cons y ys =>
      have ha := List.pairwise_cons.1 ha
      have hb := List.pairwise_cons.1 hb
      have hxy : x = y := by
        rcases List.mem_cons.1 ((h x).1 (by simp)) with e | hx
        · exact e
        · rcases List.mem_cons.1 ((h y).2 (by simp)) with e | hy
          · exact e.symm
          · exact absurd (ha.1 y hy) (asym _ _ (hb.1 x hx))
      subst hxy
      have irr : ∀ a, ¬ R a a := fun a h => asym a a h h
      rw [strict_ext R asym xs ys ha.2 hb.2 (fun z => ⟨fun hz => ?_, fun hz => ?_⟩)]
      · rcases List.mem_cons.1 ((h z).1 (by simp [hz])) with e | hz'
        · subst e; exact absurd (ha.1 z hz) (irr z)
        · exact hz'
      · rcases List.mem_cons.1 ((h z).2 (by simp [hz])) with e | hz'
        · subst e; exact absurd (hb.1 z hz) (irr z)
        · exact hz'
theorem rdP_lt (l : List S44) (i : Nat) (h : i < l.length) : rd_T44 l (i : Int) = l[i] := by simp [rd_T44, h]
/-- One duty for itself. -/
def dOk (d : S44) : Prop := 1 ≤ d.f0 ∧ d.f0 ≤ 8 ∧ 0 ≤ d.f1 ∧ d.f1 < d.f2 ∧ d.f2 ≤ 240 ∧ d.f2 - d.f1 ≤ 12
/-- a comes before b. -/
def dLt (a b : S44) : Prop := a.f1 < b.f1 ∨ (a.f1 = b.f1 ∧ a.f0 < b.f0)
def dRest (a b : S44) : Prop := a.f0 = b.f0 → a.f2 + 11 ≤ b.f1
theorem dLt_trans {a b c : S44} (h1 : dLt a b) (h2 : dLt b c) : dLt a c := by unfold dLt at *; omega
theorem dLt_irrefl (a : S44) : ¬ dLt a a := by unfold dLt; omega
/-- Duties in order, each for itself valid. -/
def Row1 (l : List S44) : Prop := (∀ d ∈ l, dOk d) ∧ l.Pairwise dLt
/-- Duties in order, with rests. -/
def Row2 (l : List S44) : Prop := (∀ d ∈ l, dOk d) ∧ l.Pairwise dLt ∧ l.Pairwise dRest
/-- A plan. -/
def Plan (l : List S44) : Prop := Row2 l ∧ l.length ≤ 20
open Classical in
noncomputable def planB (l : List S44) : Bool := decide (Plan l)
theorem planB_true {l : List S44} : planB l = true ↔ Plan l := by unfold planB; simp
theorem planB_eq {l l' : List S44} (h : Plan l ↔ Plan l') : planB l = planB l' := by
  rw [Bool.eq_iff_iff, planB_true, planB_true]; exact h
theorem planB_of {l : List S44} (h : Plan l) : planB l = true := planB_true.2 h
theorem planB_not {l : List S44} (h : ¬ Plan l) : planB l = false := by
  cases e : planB l with
  | false => rfl
  | true => exact absurd (planB_true.1 e) h

theorem within_f (x a b : Int) : impl_within.f x a b = some (decide (a ≤ x ∧ x ≤ b)) := by
  unfold impl_within.f
  by_cases h : x ≥ a
  · rw [if_pos h]; congr 1; simp; omega
  · rw [if_neg h]; congr 1; simp; omega
theorem l1In_f (x a b : Int) : spec_l1In.f x a b = some (decide (a ≤ x ∧ x ≤ b)) := by
  unfold spec_l1In.f
  by_cases h : x ≥ a
  · rw [if_pos h]; congr 1; simp; omega
  · rw [if_neg h]; congr 1; simp; omega

/-- The last of the duties so far comes before d: so do all. -/
theorem before_all {l : List S44} {i : Nat} (hi : i < l.length) (h : (l.take i).Pairwise dLt) (d : S44) (h0 : ∀ (hp : 0 < i), dLt (l[i - 1]'(by omega)) d) : ∀ a ∈ l.take i, dLt a d := by
  intro a ha
  obtain ⟨j, hj, rfl⟩ := List.getElem_of_mem ha
  have hj' : j < i := by simp at hj; omega
  have hp : 0 < i := by omega
  have hlast := h0 hp
  by_cases e : j = i - 1
  · subst e; simpa using hlast
  · have h1 := List.pairwise_iff_getElem.1 h j (i - 1) hj (by simp; omega) (by omega)
    exact dLt_trans h1 (by simpa using hlast)
theorem row1_step {l : List S44} {i : Nat} (hi : i < l.length) (h : Row1 (l.take i)) (ho : dOk l[i]) (h0 : ∀ (hp : 0 < i), dLt (l[i - 1]'(by omega)) l[i]) : Row1 (l.take (i + 1)) := by
  rw [take_succ' _ _ hi]
  refine ⟨fun d hd => ?_, List.pairwise_append.2 ⟨h.2, List.pairwise_singleton _ _, fun a ha b hb => ?_⟩⟩
  · rcases List.mem_append.1 hd with hd | hd
    · exact h.1 d hd
    · rw [List.mem_singleton.1 hd]; exact ho
  · rw [List.mem_singleton.1 hb]; exact before_all hi h.2 _ h0 a ha
theorem row2_step {l : List S44} {i : Nat} (hi : i < l.length) (h : Row2 (l.take i)) (ho : dOk l[i]) (h0 : ∀ (hp : 0 < i), dLt (l[i - 1]'(by omega)) l[i]) (hr : ∀ a ∈ l.take i, dRest a l[i]) : Row2 (l.take (i + 1)) := by
  have h1 := row1_step hi ⟨h.1, h.2.1⟩ ho h0
  refine ⟨h1.1, h1.2, ?_⟩
  rw [take_succ' _ _ hi]
  refine List.pairwise_append.2 ⟨h.2.2, List.pairwise_singleton _ _, fun a ha b hb => ?_⟩
  rw [List.mem_singleton.1 hb]; exact hr a ha
theorem plan_dOk {l : List S44} (h : Plan l) {i : Nat} (hi : i < l.length) : dOk l[i] := h.1.1 _ (List.getElem_mem _)
theorem plan_order {l : List S44} (h : l.Pairwise dLt) {i : Nat} (hi : i < l.length) (hp : 0 < i) : dLt (l[i - 1]'(by omega)) l[i] := List.pairwise_iff_getElem.1 h (i - 1) i (by omega) hi (by omega)

/-! ### the program -/
theorem compare_ge (k : Nat) (x y : S44) (hk : 3 ≤ k) : impl_compareDuties.f k x.f0 x.f1 x.f2 y.f0 y.f1 y.f2 = some (cmpD x y) := by
  obtain ⟨d, rfl⟩ : ∃ d, k = 3 + d := ⟨k - 3, by omega⟩
  induction d with
  | zero => exact compareD_f x y
  | succ d ih => exact impl_compareDuties.mono _ _ _ _ _ _ _ _ (ih (by omega))
theorem cmpD_lt (x y : S44) : cmpD x y < 0 ↔ dLt x y := by
  have := ltD x y
  unfold ltOf at this
  rw [decide_eq_decide] at this
  exact this
theorem compareEv (x y : S44) : Ev (fun k => impl_compareDuties.f k x.f0 x.f1 x.f2 y.f0 y.f1 y.f2) (cmpD x y) := ⟨3, fun k hk => compare_ge k x y hk⟩
theorem isValid_l0 (l : List S44) (hl : l.length ≤ 1099511627776) : ∀ (d i : Nat), l.length - i = d → i ≤ l.length → Row2 (l.take i) →
    Ev (fun k => impl_IsValidPlan.l0 k l l (l.length : Int) (i : Int)) (planB l) := by
  intro d
  induction d with
  | zero =>
    intro i hd hi hR
    obtain rfl : i = l.length := by omega
    rw [List.take_length] at hR
    refine Ev.step (fun k => by rw [impl_IsValidPlan.l0]) ?_
    refine Ev.neg (by omega) (Ev.const ?_)
    congr 1
    rw [Bool.eq_iff_iff, planB_true]
    simp [Plan, hR]
    omega
  | succ d ih =>
    intro i hd hi hR
    have hlt : i < l.length := by omega
    refine Ev.step (fun k => by rw [impl_IsValidPlan.l0]) ?_
    refine Ev.pos (by omega) (Ev.pos (by omega) (Ev.pos (by omega) ?_))
    rw [rdP_lt l i hlt]
    have hno : ∀ x : Bool, (¬ Plan l) → x = true → Ev (fun k => impl_IsValidPlan.j1 k l (i : Int) l (l.length : Int) (i : Int) x l[i].f0 l[i].f1 l[i].f2) (planB l) := fun x hn hx => by
      subst hx
      refine Ev.step (fun k => by rw [impl_IsValidPlan.j1]) ?_
      rw [planB_not hn]
      exact Ev.pos rfl (Ev.now _)
    refine Ev.bindc (within_f _ _ _) ?_
    refine Ev.cases (fun h1 => ?_) (fun h1 => hno _ (fun hP => ?_) rfl)
    rotate_left
    · have := plan_dOk hP hlt; unfold dOk at this; simp at h1; omega
    have h1' : 1 ≤ l[i].f0 ∧ l[i].f0 ≤ 8 := of_decide_eq_true h1
    refine Ev.cases (fun h2 => hno _ (fun hP => ?_) rfl) (fun h2 => ?_)
    · have := plan_dOk hP hlt; unfold dOk at this; omega
    refine Ev.cases (fun h3 => hno _ (fun hP => ?_) rfl) (fun h3 => ?_)
    · have := plan_dOk hP hlt; unfold dOk at this; omega
    refine Ev.cases (fun h4 => hno _ (fun hP => ?_) rfl) (fun h4 => ?_)
    · have := plan_dOk hP hlt; unfold dOk at this; omega
    rw [w64 (x := l[i].f2 - l[i].f1) (by omega) (by omega)]
    by_cases h5 : l[i].f2 - l[i].f1 > 12
    · exact hno _ (fun hP => by have := plan_dOk hP hlt; unfold dOk at this; omega) (decide_eq_true h5)
    rw [decide_eq_false h5]
    have ho : dOk l[i] := by unfold dOk; omega
    have hno2 : ∀ x : Bool, (¬ Plan l) → x = true → Ev (fun k => impl_IsValidPlan.j2 k l (i : Int) l (l.length : Int) (i : Int) x l[i].f0 l[i].f1 l[i].f2) (planB l) := fun x hn hx => by
      subst hx
      refine Ev.step (fun k => by rw [impl_IsValidPlan.j2]) ?_
      rw [planB_not hn]
      exact Ev.pos rfl (Ev.now _)
    have hyes : (∀ (hp : 0 < i), dLt (l[i - 1]'(by omega)) l[i]) → Ev (fun k => impl_IsValidPlan.j2 k l (i : Int) l (l.length : Int) (i : Int) false l[i].f0 l[i].f1 l[i].f2) (planB l) := fun h0 => by
      refine Ev.step (fun k => by rw [impl_IsValidPlan.j2]) ?_
      refine Ev.neg (by decide) (Ev.pos (by omega) (Ev.pos (by omega) ?_))
      rw [Int.toNat_natCast]
      refine Ev.bindc (b := ((l.take i).any fun o => o.f0 == l[i].f0 && decide (l[i].f1 < wrap64 (o.f2 + 11)))) rfl ?_
      have hany : ((l.take i).any fun o => o.f0 == l[i].f0 && decide (l[i].f1 < wrap64 (o.f2 + 11))) = true ↔ ¬ ∀ a ∈ l.take i, dRest a l[i] := by
        rw [List.any_eq_true]
        constructor
        · rintro ⟨o, hm, hb⟩ hall
          have h6 := hall o hm
          have h7 := hR.1 o hm
          unfold dOk at h7
          simp only [Bool.and_eq_true, beq_iff_eq, decide_eq_true_eq] at hb
          rw [w64 (by omega) (by omega)] at hb
          have := h6 hb.1
          omega
        · intro hn
          have : ∃ a ∈ l.take i, ¬ dRest a l[i] := by
            refine Classical.byContradiction fun hc => hn fun a ha => ?_
            exact Classical.byContradiction fun hd => hc ⟨a, ha, hd⟩
          obtain ⟨o, hm, hb⟩ := this
          have h7 := hR.1 o hm
          unfold dOk at h7
          unfold dRest at hb
          refine ⟨o, hm, ?_⟩
          simp only [Bool.and_eq_true, beq_iff_eq, decide_eq_true_eq]
          rw [w64 (by omega) (by omega)]
          omega
      refine Ev.cases (fun h6 => ?_) (fun h6 => ?_)
      · refine Ev.const ?_
        rw [planB_not (fun hP => hany.1 h6 (fun a ha => ?_))]
        have h8 := hP.1.2.2
        obtain ⟨j, hj, rfl⟩ := List.getElem_of_mem ha
        have hj' : j < i := by simp at hj; omega
        simpa using List.pairwise_iff_getElem.1 h8 j i (by omega) hlt hj'
      · rw [w64 (by omega) (by omega), show (i : Int) + 1 = ((i + 1 : Nat) : Int) from by omega]
        refine ih (i + 1) (by omega) (by omega) (row2_step hlt hR ho h0 ?_)
        exact Classical.byContradiction fun hn => h6 (hany.2 hn)
    refine Ev.step (fun k => by rw [impl_IsValidPlan.j1]) ?_
    refine Ev.neg (by decide) (Ev.cases (fun hp => ?_) (fun hp => hyes (fun h => by omega)))
    have hpi : 0 < i := by omega
    have ew : wrap64 ((i : Int) - 1) = ((i - 1 : Nat) : Int) := by rw [w64 (by omega) (by omega)]; omega
    rw [ew, rdP_lt l (i - 1) (by omega)]
    refine Ev.pos (by omega) (Ev.pos (by omega) (Ev.bind (compareEv _ _) ?_))
    by_cases hc : cmpD (l[i - 1]'(by omega)) l[i] ≥ 0
    · refine hno2 _ (fun hP => ?_) (decide_eq_true hc)
      have := (cmpD_lt _ _).2 (plan_order hP.1.2.1 hlt hpi)
      omega
    · rw [decide_eq_false hc]
      exact hyes (fun _ => (cmpD_lt _ _).1 (by omega))
theorem isValidPlan (l : List S44) (hl : l.length ≤ 1099511627776) : Ev (fun k => impl_IsValidPlan.f k l) (planB l) := by
  unfold impl_IsValidPlan.f
  exact isValid_l0 l hl _ 0 rfl (by omega) ⟨by simp, by simp, by simp⟩

/-! ### the reference -/
def restOk (p : Int) : Int → List S44 → Prop
  | _, [] => True
  | e, d :: ds => if d.f0 = p then ((0 ≤ e → e + 11 ≤ d.f1) ∧ restOk p d.f2 ds) else restOk p e ds
def restF (p : Int) : Int → Int → List S44 → Int
  | least, _, [] => least
  | least, e, d :: ds => if d.f0 = p then (if 0 ≤ e ∧ (least < 0 ∨ d.f1 - e < least) then restF p (if d.f1 - e > 0 then d.f1 - e else 0) d.f2 ds else restF p least d.f2 ds) else restF p least e ds
theorem most_f (a b : Int) : spec_l1Most.f a b = some (if a > b then a else b) := by
  unfold spec_l1Most.f; split <;> rfl
theorem rest_l0 (p : Int) (l : List S44) (hl : l.length ≤ 1099511627776) (hO : ∀ d ∈ l, dOk d) : ∀ (d i : Nat) (least e : Int), l.length - i = d → i ≤ l.length → -1 ≤ e → e ≤ 240 →
    Ev (fun k => spec_l25Rest.l0 k l p least e (i : Int)) (restF p least e (l.drop i)) := by
  intro d
  induction d with
  | zero =>
    intro i least e hd hi h1 h2
    refine Ev.step (fun k => by rw [spec_l25Rest.l0]) ?_
    refine Ev.neg (by omega) (Ev.const ?_)
    rw [List.drop_of_length_le (by omega)]
    rfl
  | succ d ih =>
    intro i least e hd hi h1 h2
    have hlt : i < l.length := by omega
    have ho := hO l[i] (List.getElem_mem _)
    unfold dOk at ho
    refine Ev.step (fun k => by rw [spec_l25Rest.l0]) ?_
    refine Ev.pos (by omega) (Ev.pos (by omega) ?_)
    rw [rdP_lt l i hlt, w64 (x := (i : Int) + 1) (by omega) (by omega), show (i : Int) + 1 = ((i + 1 : Nat) : Int) from by omega, drop_cons' l i hlt]
    simp only [restF]
    rw [w64 (x := l[i].f1 - e) (by omega) (by omega)]
    refine Ev.cases (fun hp => ?_) (fun hp => ?_)
    · rw [if_pos hp]
      refine Ev.cases (fun he => ?_) (fun he => ?_)
      · refine Ev.cases (fun hs => ?_) (fun hs => ?_)
        · rw [if_pos ⟨he, .inl hs⟩]
          refine Ev.bindc (most_f _ _) ?_
          exact ih (i + 1) _ _ (by omega) (by omega) (by omega) (by omega)
        · refine Ev.cases (fun hs2 => ?_) (fun hs2 => ?_)
          · rw [if_pos ⟨he, .inr hs2⟩]
            refine Ev.bindc (most_f _ _) ?_
            exact ih (i + 1) _ _ (by omega) (by omega) (by omega) (by omega)
          · rw [if_neg (by omega)]
            exact ih (i + 1) _ _ (by omega) (by omega) (by omega) (by omega)
      · rw [if_neg (by omega)]
        exact ih (i + 1) _ _ (by omega) (by omega) (by omega) (by omega)
    · rw [if_neg hp]
      exact ih (i + 1) _ _ (by omega) (by omega) (by omega) (by omega)
theorem restEv (p : Int) (l : List S44) (hl : l.length ≤ 1099511627776) (hO : ∀ d ∈ l, dOk d) : Ev (fun k => spec_l25Rest.f k l p) (restF p (-1) (-1) l) := by
  unfold spec_l25Rest.f
  exact rest_l0 p l hl hO _ 0 _ _ rfl (by omega) (by omega) (by omega)
theorem restF_low (p : Int) : ∀ (l : List S44) (least e : Int), 0 ≤ least → least < 11 → 0 ≤ restF p least e l ∧ restF p least e l < 11
  | [], least, e, h1, h2 => ⟨h1, h2⟩
  | d :: ds, least, e, h1, h2 => by
    simp only [restF]
    split
    · split
      · rename_i h
        exact restF_low p ds _ _ (by split <;> omega) (by split <;> omega)
      · exact restF_low p ds _ _ h1 h2
    · exact restF_low p ds _ _ h1 h2
theorem restF_iff (p : Int) : ∀ (l : List S44) (least e : Int), (least < 0 ∨ 11 ≤ least) → ((0 ≤ restF p least e l ∧ restF p least e l < 11) ↔ ¬ restOk p e l)
  | [], least, e, h => by simp [restF, restOk]; omega
  | d :: ds, least, e, h => by
    simp only [restF, restOk]
    by_cases hp : d.f0 = p
    · rw [if_pos hp, if_pos hp]
      by_cases he : 0 ≤ e
      · by_cases hr : d.f1 - e < 11
        · rw [if_pos ⟨he, by omega⟩]
          refine ⟨fun _ h2 => by have := h2.1 he; omega, fun _ => restF_low p ds _ _ (by split <;> omega) (by split <;> omega)⟩
        · have h2 : (0 ≤ e → e + 11 ≤ d.f1) := fun _ => by omega
          have ih := fun least' hl' => restF_iff p ds least' d.f2 hl'
          split
          · rw [ih _ (by split <;> omega)]
            exact ⟨fun h h3 => h h3.2, fun h h3 => h ⟨h2, h3⟩⟩
          · rw [ih _ h]
            exact ⟨fun h h3 => h h3.2, fun h h3 => h ⟨h2, h3⟩⟩
      · rw [if_neg (by omega), restF_iff p ds least d.f2 h]
        exact ⟨fun h h3 => h h3.2, fun h h3 => h ⟨fun h4 => absurd h4 he, h3⟩⟩
    · rw [if_neg hp, if_neg hp]
      exact restF_iff p ds least e h
theorem restOk_iff (p : Int) : ∀ (l : List S44) (e : Int), (∀ d ∈ l, dOk d) → (restOk p e l ↔ ((0 ≤ e → ∀ d ∈ l, d.f0 = p → e + 11 ≤ d.f1) ∧ l.Pairwise (fun a b => a.f0 = p → b.f0 = p → a.f2 + 11 ≤ b.f1)))
  | [], e, _ => by simp [restOk]
  | d :: ds, e, hO => by
    have hd := hO d (by simp)
    unfold dOk at hd
    have hO' : ∀ d ∈ ds, dOk d := fun x hx => hO x (by simp [hx])
    simp only [restOk, List.pairwise_cons]
    by_cases hp : d.f0 = p
    · rw [if_pos hp, restOk_iff p ds d.f2 hO']
      constructor
      · rintro ⟨h1, h2, h3⟩
        have h2' := h2 (by omega)
        refine ⟨fun he x hx hxp => ?_, fun x hx _ hxp => h2' x hx hxp, h3⟩
        rcases List.mem_cons.1 hx with rfl | hx
        · exact h1 he
        · have := h1 he; have := h2' x hx hxp; omega
      · rintro ⟨h1, h2, h3⟩
        exact ⟨fun he => h1 he d (by simp) hp, fun _ x hx hxp => h2 x hx hp hxp, h3⟩
    · rw [if_neg hp, restOk_iff p ds e hO']
      constructor
      · rintro ⟨h1, h2⟩
        refine ⟨fun he x hx hxp => ?_, fun x hx h => absurd h hp, h2⟩
        rcases List.mem_cons.1 hx with rfl | hx
        · exact absurd hxp hp
        · exact h1 he x hx hxp
      · rintro ⟨h1, _, h3⟩
        exact ⟨fun he x hx hxp => h1 he x (by simp [hx]) hxp, h3⟩
theorem rests_iff (l : List S44) (hO : ∀ d ∈ l, dOk d) : l.Pairwise dRest ↔ ∀ p : Int, 1 ≤ p → p ≤ 8 → restOk p (-1) l := by
  constructor
  · intro h p _ _
    rw [restOk_iff p l (-1) hO]
    exact ⟨fun h => by omega, h.imp fun h1 h2 h3 => h1 (h2.trans h3.symm)⟩
  · intro h
    rw [List.pairwise_iff_getElem]
    intro i j hi hj hij he
    have ho := hO l[i] (List.getElem_mem _)
    unfold dOk at ho
    have h1 := ((restOk_iff l[i].f0 l (-1) hO).1 (h _ (by omega) (by omega))).2
    exact List.pairwise_iff_getElem.1 h1 i j hi hj hij rfl he.symm
theorem good_l1 (l : List S44) (hl : l.length ≤ 1099511627776) (hR : Row1 l) : ∀ (d : Nat) (p : Int), (9 - p).toNat = d → 1 ≤ p → p ≤ 9 → (∀ q : Int, 1 ≤ q → q < p → restOk q (-1) l) →
    Ev (fun k => spec_l25Good.l1 k l p) (planB l) := by
  intro d
  induction d with
  | zero =>
    intro p hd h1 h2 hq
    refine Ev.step (fun k => by rw [spec_l25Good.l1]) ?_
    refine Ev.neg (by omega) (Ev.const ?_)
    congr 1
    rw [Bool.eq_iff_iff, planB_true]
    have := (rests_iff l hR.1).2 (fun q h3 h4 => hq q h3 (by omega))
    rw [decide_eq_true_eq]
    exact ⟨fun h => ⟨⟨hR.1, hR.2, this⟩, by omega⟩, fun h => by have := h.2; omega⟩
  | succ d ih =>
    intro p hd h1 h2 hq
    refine Ev.step (fun k => by rw [spec_l25Good.l1]) ?_
    refine Ev.pos (by omega) (Ev.bind (restEv p l hl hR.1) ?_)
    have hi := restF_iff p l (-1) (-1) (.inl (by omega))
    have hbad : (0 ≤ restF p (-1) (-1) l ∧ restF p (-1) (-1) l < 11) → planB l = false := fun h => planB_not fun hP => hi.1 h ((rests_iff l hR.1).1 hP.1.2.2 p h1 (by omega))
    have hgood : ¬ (0 ≤ restF p (-1) (-1) l ∧ restF p (-1) (-1) l < 11) → Ev (fun k => spec_l25Good.l1 k l (wrap64 (p + 1))) (planB l) := fun h => by
      rw [w64 (by omega) (by omega)]
      refine ih (p + 1) (by omega) (by omega) (by omega) (fun q h3 h4 => ?_)
      by_cases e : q = p
      · subst e; exact Classical.byContradiction fun hn => h (hi.2 hn)
      · exact hq q h3 (by omega)
    refine Ev.cases (fun h3 => ?_) (fun h3 => hgood (by omega))
    refine Ev.cases (fun h4 => Ev.const (by rw [hbad ⟨h3, h4⟩])) (fun h4 => hgood (by omega))
theorem good_l0 (l : List S44) (hl : l.length ≤ 1099511627776) : ∀ (d i : Nat), l.length - i = d → i ≤ l.length → Row1 (l.take i) →
    Ev (fun k => spec_l25Good.l0 k l (i : Int)) (planB l) := by
  intro d
  induction d with
  | zero =>
    intro i hd hi hR
    obtain rfl : i = l.length := by omega
    rw [List.take_length] at hR
    refine Ev.step (fun k => by rw [spec_l25Good.l0]) ?_
    exact Ev.neg (by omega) (good_l1 l hl hR _ 1 rfl (by omega) (by omega) (fun q h1 h2 => by omega))
  | succ d ih =>
    intro i hd hi hR
    have hlt : i < l.length := by omega
    refine Ev.step (fun k => by rw [spec_l25Good.l0]) ?_
    refine Ev.pos (by omega) (Ev.pos (by omega) ?_)
    rw [rdP_lt l i hlt]
    have hno : ∀ x : Bool, (¬ Plan l) → x = true → Ev (fun k => spec_l25Good.j1 k l (i : Int) x l[i].f0 l[i].f1 l[i].f2) (planB l) := fun x hn hx => by
      subst hx
      refine Ev.step (fun k => by rw [spec_l25Good.j1]) ?_
      rw [planB_not hn]
      exact Ev.pos rfl (Ev.now _)
    refine Ev.bindc (b := decide (1 ≤ l[i].f0 ∧ l[i].f0 ≤ 8)) (by unfold spec_l25Person.f; rw [l1In_f]; rfl) ?_
    refine Ev.cases (fun h1 => ?_) (fun h1 => hno _ (fun hP => ?_) rfl)
    rotate_left
    · have := plan_dOk hP hlt; unfold dOk at this; simp at h1; omega
    have h1' : 1 ≤ l[i].f0 ∧ l[i].f0 ≤ 8 := of_decide_eq_true h1
    refine Ev.cases (fun h2 => hno _ (fun hP => ?_) rfl) (fun h2 => ?_)
    · have := plan_dOk hP hlt; unfold dOk at this; omega
    refine Ev.cases (fun h3 => hno _ (fun hP => ?_) rfl) (fun h3 => ?_)
    · have := plan_dOk hP hlt; unfold dOk at this; omega
    refine Ev.cases (fun h4 => hno _ (fun hP => ?_) rfl) (fun h4 => ?_)
    · have := plan_dOk hP hlt; unfold dOk at this; omega
    rw [w64 (x := l[i].f2 - l[i].f1) (by omega) (by omega)]
    by_cases h5 : l[i].f2 - l[i].f1 > 12
    · exact hno _ (fun hP => by have := plan_dOk hP hlt; unfold dOk at this; omega) (decide_eq_true h5)
    rw [decide_eq_false h5]
    have ho : dOk l[i] := by unfold dOk; omega
    have hyes : (∀ (hp : 0 < i), dLt (l[i - 1]'(by omega)) l[i]) → Ev (fun k => spec_l25Good.l0 k l (wrap64 ((i : Int) + 1))) (planB l) := fun h0 => by
      rw [w64 (by omega) (by omega), show (i : Int) + 1 = ((i + 1 : Nat) : Int) from by omega]
      exact ih (i + 1) (by omega) (by omega) (row1_step hlt hR ho h0)
    refine Ev.step (fun k => by rw [spec_l25Good.j1]) ?_
    refine Ev.neg (by decide) (Ev.cases (fun hp => ?_) (fun hp => hyes (fun h => by omega)))
    have hpi : 0 < i := by omega
    have ew : wrap64 ((i : Int) - 1) = ((i - 1 : Nat) : Int) := by rw [w64 (by omega) (by omega)]; omega
    rw [ew, rdP_lt l (i - 1) (by omega)]
    have hbad : ¬ dLt (l[i - 1]'(by omega)) l[i] → planB l = false := fun h => planB_not fun hP => h (plan_order hP.1.2.1 hlt hpi)
    refine Ev.pos (by omega) (Ev.pos (by omega) ?_)
    refine Ev.cases (fun h6 => Ev.const (by rw [hbad (by unfold dLt; omega)])) (fun h6 => ?_)
    refine Ev.cases (fun h7 => ?_) (fun h7 => hyes (fun _ => by unfold dLt; omega))
    exact Ev.cases (fun h8 => Ev.const (by rw [hbad (by unfold dLt; omega)])) (fun h8 => hyes (fun _ => by unfold dLt; omega))
theorem specGood (l : List S44) (hl : l.length ≤ 1099511627776) : Ev (fun k => spec_l25Good.f k l) (planB l) := by
  unfold spec_l25Good.f
  exact good_l0 l hl _ 0 rfl (by omega) ⟨by simp, by simp⟩
end Go.Proofs.Ythhjhbndnipdgaa.Pure

/- Sorting and inserting duties come to one list. -/
namespace Go.Proofs.Ythhjhbndnipdgaa.Pure
open Go.RowKit Go.Proofs.Ythhjhbndnipdgaa.P Go.Proofs.YthhjhbndnipdgaaW.PrintWords Go.Proofs.YthhjhbndnipdgaaW.PrintLast
set_option linter.unusedVariables false

instance (a b : S44) : Decidable (dLt a b) := by unfold dLt; infer_instance
def wLe (a b : S44) : Prop := ¬ dLt b a
def dKey (a b : S44) : Prop := dLt a b ∨ dLt b a
theorem wLe_trans {a b c : S44} (h1 : wLe a b) (h2 : wLe b c) : wLe a c := by unfold wLe dLt at *; omega
theorem wLe_of_dLt {a b : S44} (h : dLt a b) : wLe a b := by unfold wLe dLt at *; omega
theorem dKey_symm {a b : S44} (h : dKey a b) : dKey b a := Or.symm h
theorem strict_of {l : List S44} (h1 : l.Pairwise wLe) (h2 : l.Pairwise dKey) : l.Pairwise dLt := by
  rw [List.pairwise_iff_getElem] at *
  intro i j hi hj hij
  exact (h2 i j hi hj hij).resolve_right (h1 i j hi hj hij)
/-- Two arrangements of the same duties in order are one where no two duties begin at one hour with one person. -/
theorem uniqD {a b : List S44} (hp : a.Perm b) (ha : a.Pairwise wLe) (hb : b.Pairwise wLe) (hk : a.Pairwise dKey) : a = b :=
  strict_ext dLt (fun a b h1 h2 => dLt_irrefl a (dLt_trans h1 h2)) a b (strict_of ha hk) (strict_of hb ((List.Perm.pairwise_iff (R := dKey) (fun h => dKey_symm h) hp).1 hk)) (fun x => hp.mem_iff)
theorem sortD_perm (l : List S44) : (sortD l).Perm l := by
  have h := (Go.Sort.pdq_sorts (ltOf cmpD) swoD l.toArray 0 l.toArray.size (Lib.bitLen l.toArray.size) true true (Nat.zero_le _) (Nat.le_refl _) (Or.inl rfl)).1
  have h1 := h.1
  have h2 := h.2.2
  unfold sortD
  generalize Go.Sort.pdq (ltOf cmpD) l.toArray 0 l.toArray.size (Lib.bitLen l.toArray.size) true true = d at h1 h2 ⊢
  rw [← h1] at h2
  rw [Array.extract_size] at h2
  rw [h1, Array.extract_size] at h2
  simpa using h2
theorem sortD_sorted (l : List S44) : (sortD l).Pairwise wLe := by
  have h0 := Go.Sort.pdq_sorts (ltOf cmpD) swoD l.toArray 0 l.toArray.size (Lib.bitLen l.toArray.size) true true (Nat.zero_le _) (Nat.le_refl _) (Or.inl rfl)
  have h1 := h0.1.1
  have h2 := h0.2
  unfold sortD
  generalize Go.Sort.pdq (ltOf cmpD) l.toArray 0 l.toArray.size (Lib.bitLen l.toArray.size) true true = d at h1 h2 ⊢
  rw [List.pairwise_iff_getElem]
  intro i j hi hj hij
  have hi' : i < d.size := by simpa using hi
  have hj' : j < d.size := by simpa using hj
  have h3 := h2 i j (Nat.zero_le _) hij (by omega)
  rw [ltD, getElem!_pos d i hi', getElem!_pos d j hj'] at h3
  have h4 := of_decide_eq_false h3
  simpa [wLe, dLt] using h4

/-! ### inserting -/
def putK (l : List S44) (d : S44) : Nat → Nat
  | 0 => 0
  | n + 1 => if dLt d (l.getD n z44) then putK l d n else n + 1
theorem putK_le (l : List S44) (d : S44) : ∀ n, putK l d n ≤ n
  | 0 => Nat.le_refl _
  | n + 1 => by
    have := putK_le l d n
    simp only [putK]
    split <;> omega
theorem putK_above (l : List S44) (d : S44) : ∀ n j, putK l d n ≤ j → j < n → dLt d (l.getD j z44)
  | 0, j, _, h => by omega
  | n + 1, j, h1, h2 => by
    simp only [putK] at h1
    split at h1
    · rename_i hc
      by_cases e : j = n
      · subst e; exact hc
      · exact putK_above l d n j h1 (by omega)
    · omega
theorem putK_below (l : List S44) (d : S44) : ∀ n, 0 < putK l d n → ¬ dLt d (l.getD (putK l d n - 1) z44)
  | 0, h => by simp [putK] at h
  | n + 1, h => by
    simp only [putK] at h ⊢
    split
    · rename_i hc
      rw [if_pos hc] at h
      exact putK_below l d n h
    · rename_i hc
      simpa using hc
def putD (l : List S44) (d : S44) : List S44 := l.take (putK l d l.length) ++ d :: l.drop (putK l d l.length)
theorem putD_perm (l : List S44) (d : S44) : (putD l d).Perm (d :: l) := by
  unfold putD
  have := List.perm_middle (a := d) (l₁ := l.take (putK l d l.length)) (l₂ := l.drop (putK l d l.length))
  rwa [List.take_append_drop] at this
theorem putD_len (l : List S44) (d : S44) : (putD l d).length = l.length + 1 := (putD_perm l d).length_eq
theorem putD_sorted (l : List S44) (d : S44) (h : l.Pairwise wLe) : (putD l d).Pairwise wLe := by
  unfold putD
  have hk := putK_le l d l.length
  have ha := putK_above l d l.length
  have hb := putK_below l d l.length
  generalize putK l d l.length = k at hk ha hb ⊢
  have hbef : ∀ a ∈ l.take k, wLe a d := fun a hm => by
    obtain ⟨j, hj, rfl⟩ := List.getElem_of_mem hm
    have hj' : j < k := by simp at hj; omega
    have h1 := hb (by omega)
    have hlt : k - 1 < l.length := by omega
    have h2 : wLe l[k - 1] d := by unfold wLe; simpa [hlt] using h1
    by_cases e : j = k - 1
    · subst e; simpa using h2
    · have h3 := List.pairwise_iff_getElem.1 h j (k - 1) (by omega) hlt (by omega)
      simpa using wLe_trans h3 h2
  have haft : ∀ b ∈ l.drop k, wLe d b := fun b hm => by
    obtain ⟨j, hj, rfl⟩ := List.getElem_of_mem hm
    have hj' : k + j < l.length := by simp at hj; omega
    have h1 := ha (k + j) (by omega) hj'
    have h2 : dLt d l[k + j] := by simpa [hj'] using h1
    simpa using wLe_of_dLt h2
  have hs := h
  rw [← List.take_append_drop k l] at hs
  have hs := List.pairwise_append.1 hs
  refine List.pairwise_append.2 ⟨hs.1, List.pairwise_cons.2 ⟨haft, hs.2.1⟩, fun a hm b hb2 => ?_⟩
  rcases List.mem_cons.1 hb2 with rfl | hb2
  · exact hbef a hm
  · exact hs.2.2 a hm b hb2
theorem put_l0 (l : List S44) (d : S44) (hl : l.length ≤ 1099511627776) : ∀ n : Nat, n ≤ l.length →
    Ev (fun k => spec_l25Put.l0 k l (n : Int) d.f0 d.f1 d.f2) (l.take (putK l d n) ++ d :: l.drop (putK l d n)) := by
  intro n
  induction n with
  | zero =>
    intro hn
    refine Ev.step (fun k => by rw [spec_l25Put.l0]) ?_
    refine Ev.neg (by omega) (Ev.const ?_)
    simp only [Option.bind_some]
    rw [if_pos (by omega), if_pos (by omega), if_pos (by first | (simp; done) | (simp; omega)), if_pos (by first | (simp; done) | (simp; omega)), if_pos (by first | (simp; done) | (simp; omega))]
    simp [putK]
  | succ n ih =>
    intro hn
    refine Ev.step (fun k => by rw [spec_l25Put.l0]) ?_
    have ew : wrap64 (((n + 1 : Nat) : Int) - 1) = (n : Int) := by rw [w64 (by omega) (by omega)]; omega
    refine Ev.pos (by omega) ?_
    rw [ew, rdP_lt l n (by omega)]
    have hg : l.getD n z44 = l[n] := by simp [show n < l.length by omega]
    have hdown : dLt d l[n] → Ev (fun k => spec_l25Put.l0 k l (n : Int) d.f0 d.f1 d.f2) (l.take (putK l d (n + 1)) ++ d :: l.drop (putK l d (n + 1))) := fun h => by
      simp only [putK, hg]
      rw [if_pos h]
      exact ih (by omega)
    have hend : ¬ dLt d l[n] → putK l d (n + 1) = n + 1 := fun h => by simp only [putK, hg]; rw [if_neg h]
    refine Ev.pos (by omega) (Ev.pos (by omega) ?_)
    refine Ev.cases (fun h1 => hdown (by unfold dLt; omega)) (fun h1 => ?_)
    refine Ev.cases (fun h2 => ?_) (fun h2 => ?_)
    · refine Ev.cases (fun h3 => hdown (by unfold dLt; omega)) (fun h3 => Ev.const ?_)
      rw [hend (by unfold dLt; omega)]
      simp only [Option.bind_some, Int.toNat_natCast]
      rw [if_pos (by omega), if_pos (by omega), if_pos (by first | (simp; done) | (simp; omega)), if_pos (by first | (simp; done) | (simp; omega)), if_pos (by first | (simp; done) | (simp; omega))]
      simp
    · refine Ev.const ?_
      rw [hend (by unfold dLt; omega)]
      simp only [Option.bind_some, Int.toNat_natCast]
      rw [if_pos (by omega), if_pos (by omega), if_pos (by first | (simp; done) | (simp; omega)), if_pos (by first | (simp; done) | (simp; omega)), if_pos (by first | (simp; done) | (simp; omega))]
      simp
theorem putEv (l : List S44) (d : S44) (hl : l.length ≤ 1099511627776) : Ev (fun k => spec_l25Put.f k l d.f0 d.f1 d.f2) (putD l d) := by
  unfold spec_l25Put.f
  exact put_l0 l d hl l.length (Nat.le_refl _)

end Go.Proofs.Ythhjhbndnipdgaa.Pure

/- A duty more. -/
namespace Go.Proofs.Ythhjhbndnipdgaa.Pure
open Go.RowKit Go.Proofs.Ythhjhbndnipdgaa.P Go.Proofs.YthhjhbndnipdgaaW.PrintWords Go.Proofs.YthhjhbndnipdgaaW.PrintLast
set_option linter.unusedVariables false

/-! ### a duty more -/
theorem add_eq (l : List S44) (d : S44) (hP : Plan l) : planB (sortD (l ++ [d])) = planB (putD l d) ∧ (planB (putD l d) = true → sortD (l ++ [d]) = putD l d) := by
  have hp : (sortD (l ++ [d])).Perm (putD l d) := (sortD_perm _).trans ((List.perm_append_comm).trans (putD_perm l d).symm)
  have h1 := sortD_sorted (l ++ [d])
  have h2 := putD_sorted l d (hP.1.2.1.imp wLe_of_dLt)
  have key : ∀ m : List S44, Plan m → m.Pairwise dKey := fun m h => h.1.2.1.imp Or.inl
  by_cases hA : Plan (putD l d)
  · have e := uniqD hp.symm h2 h1 (key _ hA)
    rw [e]; exact ⟨rfl, fun _ => rfl⟩
  · by_cases hB : Plan (sortD (l ++ [d]))
    · have e := uniqD hp h1 h2 (key _ hB)
      rw [e]; exact ⟨rfl, fun _ => rfl⟩
    · rw [planB_not hA, planB_not hB]
      exact ⟨rfl, fun h => by cases h⟩
noncomputable def addT (l : List S44) (d : S44) : List S44 × Bool := if planB (putD l d) = true then (putD l d, true) else ([], false)
theorem added_impl (l : List S44) (d : S44) (hP : Plan l) : Ev (fun k => impl_addedDuty.f k l d.f0 d.f1 d.f2) (addT l d) := by
  unfold impl_addedDuty.f addT
  have hl := hP.2
  have he := add_eq l d hP
  refine Ev.bindc (b := l) (by unfold slices_Clone_impl_Duty.f; rw [if_pos (by omega)]) ?_
  simp only [Option.bind_some]
  refine Ev.pos (by simp; omega) ?_
  refine Ev.bindc (b := sortD (l ++ [d])) (by unfold slices_SortFunc_impl_Duty.f; rw [if_pos (by simp; omega)]) ?_
  refine Ev.bind (isValidPlan _ (by rw [pdq_size]; simp; omega)) ?_
  rw [he.1]
  refine Ev.cases (fun h => ?_) (fun h => ?_)
  · rw [if_pos h, he.2 h]; exact Ev.now _
  · rw [if_neg h]; exact Ev.now _
noncomputable def addDutyT (l : List S44) (d : S44) : List S44 × Bool := if planB l = true then addT l d else ([], false)
theorem addT_len (l : List S44) (d : S44) : (addT l d).1.length ≤ 20 := by
  unfold addT
  split
  · rename_i h; exact (planB_true.1 h).2
  · simp
theorem addDutyT_len (l : List S44) (d : S44) : (addDutyT l d).1.length ≤ 20 := by
  unfold addDutyT
  split
  · exact addT_len l d
  · simp
theorem add_impl (l : List S44) (d : S44) (hl : l.length ≤ 1099511627775) : Ev (fun k => impl_AddDuty.f k l d.f0 d.f1 d.f2) (addDutyT l d) := by
  unfold impl_AddDuty.f addDutyT
  refine Ev.bind (isValidPlan l (by omega)) (Ev.cases (fun h => ?_) (fun h => ?_))
  · rw [if_pos h]
    exact Ev.bind (added_impl l d (planB_true.1 h)) (Ev.now _)
  · rw [if_neg h]; exact Ev.now _
theorem add_spec (l : List S44) (d : S44) (hl : l.length ≤ 1099511627775) : Ev (fun k => spec_AddDuty.f k l d.f0 d.f1 d.f2) (addDutyT l d) := by
  unfold spec_AddDuty.f addDutyT addT
  refine Ev.bind (putEv l d (by omega)) (Ev.bind (specGood l (by omega)) (Ev.cases (fun h => ?_) (fun h => ?_)))
  · rw [if_pos h]
    refine Ev.bind (specGood _ (by rw [putD_len]; omega)) (Ev.cases (fun h2 => ?_) (fun h2 => ?_))
    · rw [if_pos h2]; exact Ev.now _
    · rw [if_neg h2]; exact Ev.now _
  · rw [if_neg h]; exact Ev.now _

end Go.Proofs.Ythhjhbndnipdgaa.Pure

namespace Go.Proofs.Ythhjhbndnipdgaa.Pure
open Go.RowKit Go.Proofs.Ythhjhbndnipdgaa.P Go.Proofs.YthhjhbndnipdgaaW.PrintWords Go.Proofs.YthhjhbndnipdgaaW.PrintLast
set_option linter.unusedVariables false

theorem FnExactAddDuty (l : List S41) (p a b : Int) (hm0 : l.length ≤ maxLen) (_ : ∀ z ∈ l, (Lit.int .i64 z.f0).wf = true ∧ (Lit.int .i64 z.f1).wf = true ∧ (Lit.int .i64 z.f2).wf = true) (_ : (Lit.int .i64 p).wf = true) (_ : (Lit.int .i64 a).wf = true) (_ : (Lit.int .i64 b).wf = true) : ∃ k, laws_FnExactAddDuty.f k l p a b = some true := by
  have hm : l.length ≤ 9223372036854775807 := Nat.le_trans hm0 (by decide)
  apply Ev.rounds
  unfold laws_FnExactAddDuty.f
  obtain ⟨t, ht, hl⟩ := szDuty_f l hm
  refine Ev.bindc ht (Ev.cases (fun _ => Ev.now _) (fun ht0 => ?_))
  have hl := hl ht0
  have td := toDutyS l hl
  have hlen : (l.map convD).length ≤ 1048576 := by simpa using hl
  have sp := add_spec (l.map convD) ⟨p, a, b⟩ (by omega)
  have im := add_impl (l.map convD) ⟨p, a, b⟩ (by omega)
  have ql := addDutyT_len (l.map convD) ⟨p, a, b⟩
  generalize addDutyT (l.map convD) ⟨p, a, b⟩ = q at sp im ql
  obtain ⟨q0, q1⟩ := q
  simp only at ql
  have eq := eqDuty_refl (l.map convD) (by omega)
  have e1 := eqDuty_refl q0 (by omega)
  have m1 := markDuty (l.map convD) 1 (by omega) (by omega) (by omega)
  have m2 := markDuty q0 1 (by omega) (by omega) (by omega)
  have h2 := heldDuty q0 1 (by omega) (by omega) (by omega)
  have tt : laws_toDuty.f p a b = some (p, a, b) := rfl
  refine Ev.bind td (Ev.bindc tt (Ev.bind sp (Ev.bind td (Ev.bindc tt (Ev.bind im (Ev.bind e1 (Ev.pos rfl ?_)))))))
  refine Ev.step (fun k => by rw [laws_FnExactAddDuty.j0]) ?_
  refine Ev.neg (by simp) (Ev.bind td (Ev.bind eq (Ev.pos rfl (Ev.bind m1 (Ev.neg (by simp only; omega) (Ev.bind e1 (Ev.pos rfl ?_)))))))
  refine Ev.step (fun k => by rw [laws_FnExactAddDuty.j1]) ?_
  refine Ev.neg (by simp) (Ev.bind m2 (Ev.bind h2 (Ev.neg (by omega) (Ev.pos rfl (Ev.bind td (Ev.bindc tt (Ev.bind im (Ev.bind e1 (Ev.pos rfl ?_)))))))))
  refine Ev.step (fun k => by rw [laws_FnExactAddDuty.j2]) ?_
  exact Ev.neg (by simp) (Ev.bind h2 (Ev.neg (by omega) (Ev.pos rfl (Ev.now _))))
end Go.Proofs.Ythhjhbndnipdgaa.Pure
