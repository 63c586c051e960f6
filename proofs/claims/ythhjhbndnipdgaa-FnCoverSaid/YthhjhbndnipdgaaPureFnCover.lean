/- Hours are uncovered exactly if too few are on duty, and exchanged persons keep the hours of the plan. Conditions: none beyond the given statement's. -/
import Derived.Test.YthhjhbndnipdgaaPx0
import Derived.Test.YthhjhbndnipdgaaPx31
import Derived.Test.YthhjhbndnipdgaaPx8
import Derived.Test.YthhjhbndnipdgaaPx6
import Derived.Test.YthhjhbndnipdgaaPx13
import Derived.Test.YthhjhbndnipdgaaPx11
import Derived.Test.YthhjhbndnipdgaaPx32
import Derived.Test.YthhjhbndnipdgaaPx33
import Derived.Test.YthhjhbndnipdgaaPx46
import Derived.Test.YthhjhbndnipdgaaPx49
import Derived.Test.YthhjhbndnipdgaaPx17
import Derived.Test.YthhjhbndnipdgaaPx5
import Derived.Lib.SlicesCompact
import Derived.Test.YthhjhbndnipdgaaPx15
import Derived.Test.YthhjhbndnipdgaaPx19
import Derived.Test.YthhjhbndnipdgaaPx21
import Derived.Test.YthhjhbndnipdgaaPx23
import Derived.Test.YthhjhbndnipdgaaPx30
import Derived.Test.YthhjhbndnipdgaaPx28
import Derived.Test.YthhjhbndnipdgaaPx12
import Derived.Test.YthhjhbndnipdgaaPx27
import Derived.Test.YthhjhbndnipdgaaPx50
/- Small laws on "with enough rounds the function answers r" (Ev) and on wrapping sums; used by every plain law of this seat. -/
namespace Go.Proofs.Ythhjhbndnipdgaa.Pure
open Go.RowKit Go.Proofs.YthhjhbndnipdgaaW.PrintWords Go.Proofs.YthhjhbndnipdgaaW.PrintLast

section
variable {α β : Type} {r : α} {f g : Nat → Option α}
theorem Ev.pos {c : Prop} [Decidable c] (h : c) (e : Ev f r) : Ev (fun k => if c then f k else g k) r := e.congr fun _ => if_pos h
theorem Ev.neg {c : Prop} [Decidable c] (h : ¬ c) (e : Ev g r) : Ev (fun k => if c then f k else g k) r := e.congr fun _ => if_neg h
theorem Ev.const {a : Option α} (h : a = some r) : Ev (fun _ => a) r := ⟨0, fun _ _ => h⟩
theorem Ev.bindc {a : Option β} {b : β} {f : Nat → β → Option α} (h : a = some b) (k : Ev (fun n => f n b) r) : Ev (fun n => a.bind (f n)) r := Ev.bind (Ev.const h) k
theorem Ev.eq {r' : α} (h : Ev f r) (e : r = r') : Ev f r' := e ▸ h
theorem Ev.cases {c : Prop} [Decidable c] (h1 : c → Ev f r) (h2 : ¬ c → Ev g r) : Ev (fun k => if c then f k else g k) r := by
 by_cases h : c
 ·
  exact Ev.pos h (h1 h)
 ·
  exact Ev.neg h (h2 h)
/-- Two answers of one function are one. -/
theorem Ev.uniq {r' : α} (h : Ev f r) (h' : Ev f r') : r = r' := by
 obtain ⟨K, hK⟩ := h
 obtain ⟨K', hK'⟩ := h'
 have a := hK (max K K') (Nat.le_max_left _ _)
 have b := hK' (max K K') (Nat.le_max_right _ _)
 rw [a] at b
 exact Option.some.inj b
end

theorem w64 {x : Int} (h1 : -9223372036854775808 ≤ x) (h2 : x ≤ 9223372036854775807) : wrap64 x = x := by unfold wrap64; omega

theorem rd_lt (l : List Int) (i : Nat) (h : i < l.length) : rd l (i : Int) = l[i] := by simp [rd, h]
theorem take_succ' {α : Type} (l : List α) (i : Nat) (h : i < l.length) : l.take (i + 1) = l.take i ++ [l[i]] := by
 rw [List.take_succ_eq_append_getElem h]
theorem drop_cons' {α : Type} (l : List α) (i : Nat) (h : i < l.length) : l.drop i = l[i] :: l.drop (i + 1) := List.drop_eq_getElem_cons h
end Go.Proofs.Ythhjhbndnipdgaa.Pure

/- The reader of choices: it always gives a choice in its range and goes on by a bounded step. -/
namespace Go.Proofs.Ythhjhbndnipdgaa.Pure
open Go.RowKit Go.Proofs.Ythhjhbndnipdgaa.P Go.Proofs.YthhjhbndnipdgaaW.PrintWords Go.Proofs.YthhjhbndnipdgaaW.PrintLast

/-- The bytes that are read. -/
def Code (l : List Int) : Prop := ∀ x ∈ l, 0 ≤ x ∧ x ≤ 255
theorem code_of {l : List Int} (h : ∀ x ∈ l, (Lit.int .u8 x).wf = true) : Code l := fun x hx => by
 have := h x hx
 simp only [Lit.wf, Bool.and_eq_true, decide_eq_true_eq] at this
 exact this
theorem rd_code {l : List Int} (h : Code l) (i : Int) (h0 : 0 ≤ i) (h1 : i < l.length) : 0 ≤ rd l i ∧ rd l i ≤ 255 := by
 obtain ⟨n, rfl⟩ : ∃ n : Nat, i = n := ⟨i.toNat, by omega⟩
 rw [rd_lt l n (by omega)]
 exact h _ (List.getElem_mem (by omega))
theorem wrap_u64' (n : Int) : IntKind.u64.wrap n = n % 18446744073709551616 := by simp [IntKind.wrap, IntKind.bits, IntKind.signed]
theorem byte_of (n : Int) : 0 ≤ Go.bits .and .u64 (IntKind.u64.wrap n / 1099511627776) 255 ∧ Go.bits .and .u64 (IntKind.u64.wrap n / 1099511627776) 255 ≤ 255 := by
 rw [wrap_u64']
 have h := bits_mask .u64 24 (by decide) (fun n h0 h1 => by rw [wrap_u64']; omega) 8 (by decide) (n % 18446744073709551616 / 1099511627776) (by omega) (by omega)
 simp only [show ((2 : Int) ^ 8) = 256 from by decide, show ((256 : Int) - 1) = 255 from by decide] at h
 rw [h]; omega

/-- Where the reader stands: not far from the begin. -/
def At (a : Int) (n : Nat) : Prop := 0 ≤ a ∧ a ≤ n ∧ n ≤ 1000000000
theorem At.le {a : Int} {n m : Nat} (h : At a n) (hn : n ≤ m) (hm : m ≤ 1000000000) : At a m := ⟨h.1, by have := h.2.1; omega, hm⟩

theorem next_ok {l : List Int} (hc : Code l) {a s : Int} {n : Nat} (h : At a n) (hn : n + 1 ≤ 1000000000) : ∃ b a' s', spec_l1Cur_next.f l a s = some (b, a', s') ∧ 0 ≤ b ∧ b ≤ 255 ∧ At a' (n + 1) := by
 obtain ⟨h0, h1, h2⟩ := h
 have hw : wrap64 (a + 1) = a + 1 := w64 (by omega) (by omega)
 have ha : At (a + 1) (n + 1) := ⟨by omega, by omega, hn⟩
 unfold spec_l1Cur_next.f
 rw [hw]
 by_cases c1 : a < (l.length : Int)
 ·
  have hr := rd_code hc a h0 c1
  rw [if_pos c1, if_pos h0, if_pos (by omega), w64 (x := rd l a) (by omega) (by omega)]
  exact ⟨_, _, _, rfl, hr.1, hr.2, ha⟩
 ·
  rw [if_neg c1, if_neg (by omega)]
  have hb := byte_of (IntKind.u64.wrap (IntKind.u64.wrap (s * 6364136223846793005) + 0) + 889889)
  rw [w64 (x := Go.bits .and .u64 _ 255) (by omega) (by omega)]
  exact ⟨_, _, _, rfl, hb.1, hb.2, ha⟩
theorem pick_ok {l : List Int} (hc : Code l) {a s : Int} {n : Nat} (h : At a n) (hn : n + 2 ≤ 1000000000) (m : Int) (hm : m ≤ 1000000) : ∃ b a' s', spec_l1Cur_pick.f l a s m = some (b, a', s') ∧ 0 ≤ b ∧ (b < m ∨ b = 0) ∧ At a' (n + 2) := by
 unfold spec_l1Cur_pick.f
 by_cases c : m ≤ 1
 ·
  rw [if_pos c]; exact ⟨_, _, _, rfl, by omega, .inr rfl, h.le (by omega) hn⟩
 ·
  rw [if_neg c]
  obtain ⟨b, a', s', e, hb0, hb1, h'⟩ := next_ok hc (s := s) h (by omega)
  rw [e]
  simp only [Option.bind_some]
  by_cases c2 : m > 200
  ·
   rw [if_pos c2]
   obtain ⟨b2, a2, s2, e2, hc0, hc1, h2⟩ := next_ok hc (s := s') h' (by omega)
   rw [e2]
   simp only [Option.bind_some]
   rw [if_neg (by omega), w64 (x := b * 256) (by omega) (by omega), w64 (x := b * 256 + b2) (by omega) (by omega)]
   refine ⟨_, _, _, rfl, Int.tmod_nonneg _ (by omega), .inl (Int.tmod_lt_of_pos _ (by omega)), h2.le (by omega) (by omega)⟩
  ·
   rw [if_neg c2, if_neg (by omega)]
   exact ⟨_, _, _, rfl, Int.tmod_nonneg _ hb0, .inl (Int.tmod_lt_of_pos _ (by omega)), h'.le (by omega) (by omega)⟩
end Go.Proofs.Ythhjhbndnipdgaa.Pure

/- The reader of choices: one of some numbers. -/
namespace Go.Proofs.Ythhjhbndnipdgaa.Pure
open Go.RowKit Go.Proofs.Ythhjhbndnipdgaa.P Go.Proofs.YthhjhbndnipdgaaW.PrintWords Go.Proofs.YthhjhbndnipdgaaW.PrintLast

theorem among_ok {l : List Int} (hc : Code l) {a s : Int} {n : Nat} (h : At a n) (hn : n + 2 ≤ 1000000000) (xs : List Int) (hx : xs ≠ []) (hm : xs.length ≤ 1000000) : ∃ b a' s', spec_l1Cur_among.f l a s xs = some (b, a', s') ∧ b ∈ xs ∧ At a' (n + 2) := by
 unfold spec_l1Cur_among.f
 obtain ⟨b, a', s', e, h0, h1, h'⟩ := pick_ok hc (s := s) h hn (xs.length : Int) (by omega)
 have hp := List.length_pos_iff.2 hx
 rw [e]
 simp only [Option.bind_some]
 obtain ⟨j, rfl⟩ : ∃ j : Nat, b = j := ⟨b.toNat, by omega⟩
 rw [if_pos h0, if_pos (by omega), rd_lt xs j (by omega)]
 exact ⟨_, _, _, rfl, List.getElem_mem (by omega), h'⟩
end Go.Proofs.Ythhjhbndnipdgaa.Pure

/- What a plan is, and that the program and the reference both say so. -/
namespace Go.Proofs.Ythhjhbndnipdgaa.Pure
open Go.RowKit Go.Proofs.Ythhjhbndnipdgaa.P Go.Proofs.YthhjhbndnipdgaaW.PrintWords Go.Proofs.YthhjhbndnipdgaaW.PrintLast
set_option linter.unusedVariables false

/-- Two lists that rise strictly and have the same members are one. -/
theorem strict_ext {α : Type} (R : α → α → Prop) (asym : ∀ a b, R a b → ¬ R b a) : ∀ a b : List α, a.Pairwise R → b.Pairwise R → (∀ x, x ∈ a ↔ x ∈ b) → a = b
 | [], b, _, _, h => by
  cases b with
  | nil => rfl
  | cons y ys => exact absurd ((h y).2 (by simp)) (by simp)
 | x :: xs, b, ha, hb, h => by
  cases b with
  | nil => exact absurd ((h x).1 (by simp)) (by simp)
  | cons y ys =>
   have ha := List.pairwise_cons.1 ha
   have hb := List.pairwise_cons.1 hb
   have hxy : x = y := by
    rcases List.mem_cons.1 ((h x).1 (by simp)) with e | hx
    ·
     exact e
    ·
     rcases List.mem_cons.1 ((h y).2 (by simp)) with e | hy
     ·
      exact e.symm
     ·
      exact absurd (ha.1 y hy) (asym _ _ (hb.1 x hx))
   subst hxy
   have irr : ∀ a, ¬ R a a := fun a h => asym a a h h
   rw [strict_ext R asym xs ys ha.2 hb.2 (fun z => ⟨fun hz => ?_, fun hz => ?_⟩)]
   ·
    rcases List.mem_cons.1 ((h z).1 (by simp [hz])) with e | hz'
    ·
     subst e; exact absurd (ha.1 z hz) (irr z)
    ·
     exact hz'
   ·
    rcases List.mem_cons.1 ((h z).2 (by simp [hz])) with e | hz'
    ·
     subst e; exact absurd (hb.1 z hz) (irr z)
    ·
     exact hz'
theorem rdP_lt (l : List S44) (i : Nat) (h : i < l.length) : rd_T44 l (i : Int) = l[i] := by simp [rd_T44, h]
/-- One duty for itself. -/
def dOk (d : S44) : Prop := 1 ≤ d.f0 ∧ d.f0 ≤ 8 ∧ 0 ≤ d.f1 ∧ d.f1 < d.f2 ∧ d.f2 ≤ 240 ∧ d.f2 - d.f1 ≤ 12
/-- a comes before b. -/
def dLt (a b : S44) : Prop := a.f1 < b.f1 ∨ (a.f1 = b.f1 ∧ a.f0 < b.f0)
def dRest (a b : S44) : Prop := a.f0 = b.f0 → a.f2 + 11 ≤ b.f1
theorem dLt_trans {a b c : S44} (h1 : dLt a b) (h2 : dLt b c) : dLt a c := by unfold dLt at *; omega
theorem dLt_irrefl (a : S44) : ¬ dLt a a := by unfold dLt; omega
/-- Duties in order, each for itself valid. -/
def Row1 (l : List S44) : Prop := (∀ d ∈ l, dOk d) ∧ l.Pairwise dLt
/-- Duties in order, with rests. -/
def Row2 (l : List S44) : Prop := (∀ d ∈ l, dOk d) ∧ l.Pairwise dLt ∧ l.Pairwise dRest
/-- A plan. -/
def Plan (l : List S44) : Prop := Row2 l ∧ l.length ≤ 20
open Classical in
noncomputable def planB (l : List S44) : Bool := decide (Plan l)
theorem planB_true {l : List S44} : planB l = true ↔ Plan l := by unfold planB; simp
theorem planB_of {l : List S44} (h : Plan l) : planB l = true := planB_true.2 h
theorem planB_not {l : List S44} (h : ¬ Plan l) : planB l = false := by
 cases e : planB l with
 | false => rfl
 | true => exact absurd (planB_true.1 e) h

theorem within_f (x a b : Int) : impl_within.f x a b = some (decide (a ≤ x ∧ x ≤ b)) := by
 unfold impl_within.f
 by_cases h : x ≥ a
 ·
  rw [if_pos h]; congr 1; simp; omega
 ·
  rw [if_neg h]; congr 1; simp; omega
theorem l1In_f (x a b : Int) : spec_l1In.f x a b = some (decide (a ≤ x ∧ x ≤ b)) := by
 unfold spec_l1In.f
 by_cases h : x ≥ a
 ·
  rw [if_pos h]; congr 1; simp; omega
 ·
  rw [if_neg h]; congr 1; simp; omega

/-- The last of the duties so far comes before d: so do all. -/
theorem before_all {l : List S44} {i : Nat} (hi : i < l.length) (h : (l.take i).Pairwise dLt) (d : S44) (h0 : ∀ (hp : 0 < i), dLt (l[i - 1]'(by omega)) d) : ∀ a ∈ l.take i, dLt a d := by
 intro a ha
 obtain ⟨j, hj, rfl⟩ := List.getElem_of_mem ha
 have hj' : j < i := by simp at hj; omega
 have hp : 0 < i := by omega
 have hlast := h0 hp
 by_cases e : j = i - 1
 ·
  subst e; simpa using hlast
 ·
  have h1 := List.pairwise_iff_getElem.1 h j (i - 1) hj (by simp; omega) (by omega)
  exact dLt_trans h1 (by simpa using hlast)
theorem row1_step {l : List S44} {i : Nat} (hi : i < l.length) (h : Row1 (l.take i)) (ho : dOk l[i]) (h0 : ∀ (hp : 0 < i), dLt (l[i - 1]'(by omega)) l[i]) : Row1 (l.take (i + 1)) := by
 rw [take_succ' _ _ hi]
 refine ⟨fun d hd => ?_, List.pairwise_append.2 ⟨h.2, List.pairwise_singleton _ _, fun a ha b hb => ?_⟩⟩
 ·
  rcases List.mem_append.1 hd with hd | hd
  ·
   exact h.1 d hd
  ·
   rw [List.mem_singleton.1 hd]; exact ho
 ·
  rw [List.mem_singleton.1 hb]; exact before_all hi h.2 _ h0 a ha
theorem row2_step {l : List S44} {i : Nat} (hi : i < l.length) (h : Row2 (l.take i)) (ho : dOk l[i]) (h0 : ∀ (hp : 0 < i), dLt (l[i - 1]'(by omega)) l[i]) (hr : ∀ a ∈ l.take i, dRest a l[i]) : Row2 (l.take (i + 1)) := by
 have h1 := row1_step hi ⟨h.1, h.2.1⟩ ho h0
 refine ⟨h1.1, h1.2, ?_⟩
 rw [take_succ' _ _ hi]
 refine List.pairwise_append.2 ⟨h.2.2, List.pairwise_singleton _ _, fun a ha b hb => ?_⟩
 rw [List.mem_singleton.1 hb]; exact hr a ha
theorem plan_dOk {l : List S44} (h : Plan l) {i : Nat} (hi : i < l.length) : dOk l[i] := h.1.1 _ (List.getElem_mem _)
theorem plan_order {l : List S44} (h : l.Pairwise dLt) {i : Nat} (hi : i < l.length) (hp : 0 < i) : dLt (l[i - 1]'(by omega)) l[i] := List.pairwise_iff_getElem.1 h (i - 1) i (by omega) hi (by omega)

/-! ### the program -/
theorem compare_ge (k : Nat) (x y : S44) (hk : 3 ≤ k) : impl_compareDuties.f k x.f0 x.f1 x.f2 y.f0 y.f1 y.f2 = some (cmpD x y) := by
 obtain ⟨d, rfl⟩ : ∃ d, k = 3 + d := ⟨k - 3, by omega⟩
 induction d with
 | zero => exact compareD_f x y
 | succ d ih => exact impl_compareDuties.mono _ _ _ _ _ _ _ _ (ih (by omega))
theorem cmpD_lt (x y : S44) : cmpD x y < 0 ↔ dLt x y := by
 have := ltD x y
 unfold ltOf at this
 rw [decide_eq_decide] at this
 exact this
theorem compareEv (x y : S44) : Ev (fun k => impl_compareDuties.f k x.f0 x.f1 x.f2 y.f0 y.f1 y.f2) (cmpD x y) := ⟨3, fun k hk => compare_ge k x y hk⟩
theorem isValid_l0 (l : List S44) (hl : l.length ≤ 1099511627776) : ∀ (d i : Nat), l.length - i = d → i ≤ l.length → Row2 (l.take i) →
  Ev (fun k => impl_IsValidPlan.l0 k l l (l.length : Int) (i : Int)) (planB l) := by
 intro d
 induction d with
 | zero =>
  intro i hd hi hR
  obtain rfl : i = l.length := by omega
  rw [List.take_length] at hR
  refine Ev.step (fun k => by rw [impl_IsValidPlan.l0]) ?_
  refine Ev.neg (by omega) (Ev.const ?_)
  congr 1
  rw [Bool.eq_iff_iff, planB_true]
  simp [Plan, hR]
  omega
 | succ d ih =>
  intro i hd hi hR
  have hlt : i < l.length := by omega
  refine Ev.step (fun k => by rw [impl_IsValidPlan.l0]) ?_
  refine Ev.pos (by omega) (Ev.pos (by omega) (Ev.pos (by omega) ?_))
  rw [rdP_lt l i hlt]
  have hno : ∀ x : Bool, (¬ Plan l) → x = true → Ev (fun k => impl_IsValidPlan.j1 k l (i : Int) l (l.length : Int) (i : Int) x l[i].f0 l[i].f1 l[i].f2) (planB l) := fun x hn hx => by
   subst hx
   refine Ev.step (fun k => by rw [impl_IsValidPlan.j1]) ?_
   rw [planB_not hn]
   exact Ev.pos rfl (Ev.now _)
  refine Ev.bindc (within_f _ _ _) ?_
  refine Ev.cases (fun h1 => ?_) (fun h1 => hno _ (fun hP => ?_) rfl)
  rotate_left
  ·
   have := plan_dOk hP hlt; unfold dOk at this; simp at h1; omega
  have h1' : 1 ≤ l[i].f0 ∧ l[i].f0 ≤ 8 := of_decide_eq_true h1
  refine Ev.cases (fun h2 => hno _ (fun hP => ?_) rfl) (fun h2 => ?_)
  ·
   have := plan_dOk hP hlt; unfold dOk at this; omega
  refine Ev.cases (fun h3 => hno _ (fun hP => ?_) rfl) (fun h3 => ?_)
  ·
   have := plan_dOk hP hlt; unfold dOk at this; omega
  refine Ev.cases (fun h4 => hno _ (fun hP => ?_) rfl) (fun h4 => ?_)
  ·
   have := plan_dOk hP hlt; unfold dOk at this; omega
  rw [w64 (x := l[i].f2 - l[i].f1) (by omega) (by omega)]
  by_cases h5 : l[i].f2 - l[i].f1 > 12
  ·
   exact hno _ (fun hP => by have := plan_dOk hP hlt; unfold dOk at this; omega) (decide_eq_true h5)
  rw [decide_eq_false h5]
  have ho : dOk l[i] := by unfold dOk; omega
  have hno2 : ∀ x : Bool, (¬ Plan l) → x = true → Ev (fun k => impl_IsValidPlan.j2 k l (i : Int) l (l.length : Int) (i : Int) x l[i].f0 l[i].f1 l[i].f2) (planB l) := fun x hn hx => by
   subst hx
   refine Ev.step (fun k => by rw [impl_IsValidPlan.j2]) ?_
   rw [planB_not hn]
   exact Ev.pos rfl (Ev.now _)
  have hyes : (∀ (hp : 0 < i), dLt (l[i - 1]'(by omega)) l[i]) → Ev (fun k => impl_IsValidPlan.j2 k l (i : Int) l (l.length : Int) (i : Int) false l[i].f0 l[i].f1 l[i].f2) (planB l) := fun h0 => by
   refine Ev.step (fun k => by rw [impl_IsValidPlan.j2]) ?_
   refine Ev.neg (by decide) (Ev.pos (by omega) (Ev.pos (by omega) ?_))
   rw [Int.toNat_natCast]
   refine Ev.bindc (b := ((l.take i).any fun o => o.f0 == l[i].f0 && decide (l[i].f1 < wrap64 (o.f2 + 11)))) rfl ?_
   have hany : ((l.take i).any fun o => o.f0 == l[i].f0 && decide (l[i].f1 < wrap64 (o.f2 + 11))) = true ↔ ¬ ∀ a ∈ l.take i, dRest a l[i] := by
    rw [List.any_eq_true]
    constructor
    ·
     rintro ⟨o, hm, hb⟩ hall
     have h6 := hall o hm
     have h7 := hR.1 o hm
     unfold dOk at h7
     simp only [Bool.and_eq_true, beq_iff_eq, decide_eq_true_eq] at hb
     rw [w64 (by omega) (by omega)] at hb
     have := h6 hb.1
     omega
    ·
     intro hn
     have : ∃ a ∈ l.take i, ¬ dRest a l[i] := by
      refine Classical.byContradiction fun hc => hn fun a ha => ?_
      exact Classical.byContradiction fun hd => hc ⟨a, ha, hd⟩
     obtain ⟨o, hm, hb⟩ := this
     have h7 := hR.1 o hm
     unfold dOk at h7
     unfold dRest at hb
     refine ⟨o, hm, ?_⟩
     simp only [Bool.and_eq_true, beq_iff_eq, decide_eq_true_eq]
     rw [w64 (by omega) (by omega)]
     omega
   refine Ev.cases (fun h6 => ?_) (fun h6 => ?_)
   ·
    refine Ev.const ?_
    rw [planB_not (fun hP => hany.1 h6 (fun a ha => ?_))]
    have h8 := hP.1.2.2
    obtain ⟨j, hj, rfl⟩ := List.getElem_of_mem ha
    have hj' : j < i := by simp at hj; omega
    simpa using List.pairwise_iff_getElem.1 h8 j i (by omega) hlt hj'
   ·
    rw [w64 (by omega) (by omega), show (i : Int) + 1 = ((i + 1 : Nat) : Int) from by omega]
    refine ih (i + 1) (by omega) (by omega) (row2_step hlt hR ho h0 ?_)
    exact Classical.byContradiction fun hn => h6 (hany.2 hn)
  refine Ev.step (fun k => by rw [impl_IsValidPlan.j1]) ?_
  refine Ev.neg (by decide) (Ev.cases (fun hp => ?_) (fun hp => hyes (fun h => by omega)))
  have hpi : 0 < i := by omega
  have ew : wrap64 ((i : Int) - 1) = ((i - 1 : Nat) : Int) := by rw [w64 (by omega) (by omega)]; omega
  rw [ew, rdP_lt l (i - 1) (by omega)]
  refine Ev.pos (by omega) (Ev.pos (by omega) (Ev.bind (compareEv _ _) ?_))
  by_cases hc : cmpD (l[i - 1]'(by omega)) l[i] ≥ 0
  ·
   refine hno2 _ (fun hP => ?_) (decide_eq_true hc)
   have := (cmpD_lt _ _).2 (plan_order hP.1.2.1 hlt hpi)
   omega
  ·
   rw [decide_eq_false hc]
   exact hyes (fun _ => (cmpD_lt _ _).1 (by omega))
theorem isValidPlan (l : List S44) (hl : l.length ≤ 1099511627776) : Ev (fun k => impl_IsValidPlan.f k l) (planB l) := by
 unfold impl_IsValidPlan.f
 exact isValid_l0 l hl _ 0 rfl (by omega) ⟨by simp, by simp, by simp⟩

/-! ### the reference -/
def restOk (p : Int) : Int → List S44 → Prop
 | _, [] => True
 | e, d :: ds => if d.f0 = p then ((0 ≤ e → e + 11 ≤ d.f1) ∧ restOk p d.f2 ds) else restOk p e ds
def restF (p : Int) : Int → Int → List S44 → Int
 | least, _, [] => least
 | least, e, d :: ds => if d.f0 = p then (if 0 ≤ e ∧ (least < 0 ∨ d.f1 - e < least) then restF p (if d.f1 - e > 0 then d.f1 - e else 0) d.f2 ds else restF p least d.f2 ds) else restF p least e ds
theorem most_f (a b : Int) : spec_l1Most.f a b = some (if a > b then a else b) := by
 unfold spec_l1Most.f; split <;> rfl
theorem rest_l0 (p : Int) (l : List S44) (hl : l.length ≤ 1099511627776) (hO : ∀ d ∈ l, dOk d) : ∀ (d i : Nat) (least e : Int), l.length - i = d → i ≤ l.length → -1 ≤ e → e ≤ 240 →
  Ev (fun k => spec_l25Rest.l0 k l p least e (i : Int)) (restF p least e (l.drop i)) := by
 intro d
 induction d with
 | zero =>
  intro i least e hd hi h1 h2
  refine Ev.step (fun k => by rw [spec_l25Rest.l0]) ?_
  refine Ev.neg (by omega) (Ev.const ?_)
  rw [List.drop_of_length_le (by omega)]
  rfl
 | succ d ih =>
  intro i least e hd hi h1 h2
  have hlt : i < l.length := by omega
  have ho := hO l[i] (List.getElem_mem _)
  unfold dOk at ho
  refine Ev.step (fun k => by rw [spec_l25Rest.l0]) ?_
  refine Ev.pos (by omega) (Ev.pos (by omega) ?_)
  rw [rdP_lt l i hlt, w64 (x := (i : Int) + 1) (by omega) (by omega), show (i : Int) + 1 = ((i + 1 : Nat) : Int) from by omega, drop_cons' l i hlt]
  simp only [restF]
  rw [w64 (x := l[i].f1 - e) (by omega) (by omega)]
  refine Ev.cases (fun hp => ?_) (fun hp => ?_)
  ·
   rw [if_pos hp]
   refine Ev.cases (fun he => ?_) (fun he => ?_)
   ·
    refine Ev.cases (fun hs => ?_) (fun hs => ?_)
    ·
     rw [if_pos ⟨he, .inl hs⟩]
     refine Ev.bindc (most_f _ _) ?_
     exact ih (i + 1) _ _ (by omega) (by omega) (by omega) (by omega)
    ·
     refine Ev.cases (fun hs2 => ?_) (fun hs2 => ?_)
     ·
      rw [if_pos ⟨he, .inr hs2⟩]
      refine Ev.bindc (most_f _ _) ?_
      exact ih (i + 1) _ _ (by omega) (by omega) (by omega) (by omega)
     ·
      rw [if_neg (by omega)]
      exact ih (i + 1) _ _ (by omega) (by omega) (by omega) (by omega)
   ·
    rw [if_neg (by omega)]
    exact ih (i + 1) _ _ (by omega) (by omega) (by omega) (by omega)
  ·
   rw [if_neg hp]
   exact ih (i + 1) _ _ (by omega) (by omega) (by omega) (by omega)
theorem restEv (p : Int) (l : List S44) (hl : l.length ≤ 1099511627776) (hO : ∀ d ∈ l, dOk d) : Ev (fun k => spec_l25Rest.f k l p) (restF p (-1) (-1) l) := by
 unfold spec_l25Rest.f
 exact rest_l0 p l hl hO _ 0 _ _ rfl (by omega) (by omega) (by omega)
theorem restF_low (p : Int) : ∀ (l : List S44) (least e : Int), 0 ≤ least → least < 11 → 0 ≤ restF p least e l ∧ restF p least e l < 11
 | [], least, e, h1, h2 => ⟨h1, h2⟩
 | d :: ds, least, e, h1, h2 => by
  simp only [restF]
  split
  ·
   split
   ·
    rename_i h
    exact restF_low p ds _ _ (by split <;> omega) (by split <;> omega)
   ·
    exact restF_low p ds _ _ h1 h2
  ·
   exact restF_low p ds _ _ h1 h2
theorem restF_iff (p : Int) : ∀ (l : List S44) (least e : Int), (least < 0 ∨ 11 ≤ least) → ((0 ≤ restF p least e l ∧ restF p least e l < 11) ↔ ¬ restOk p e l)
 | [], least, e, h => by simp [restF, restOk]; omega
 | d :: ds, least, e, h => by
  simp only [restF, restOk]
  by_cases hp : d.f0 = p
  ·
   rw [if_pos hp, if_pos hp]
   by_cases he : 0 ≤ e
   ·
    by_cases hr : d.f1 - e < 11
    ·
     rw [if_pos ⟨he, by omega⟩]
     refine ⟨fun _ h2 => by have := h2.1 he; omega, fun _ => restF_low p ds _ _ (by split <;> omega) (by split <;> omega)⟩
    ·
     have h2 : (0 ≤ e → e + 11 ≤ d.f1) := fun _ => by omega
     have ih := fun least' hl' => restF_iff p ds least' d.f2 hl'
     split
     ·
      rw [ih _ (by split <;> omega)]
      exact ⟨fun h h3 => h h3.2, fun h h3 => h ⟨h2, h3⟩⟩
     ·
      rw [ih _ h]
      exact ⟨fun h h3 => h h3.2, fun h h3 => h ⟨h2, h3⟩⟩
   ·
    rw [if_neg (by omega), restF_iff p ds least d.f2 h]
    exact ⟨fun h h3 => h h3.2, fun h h3 => h ⟨fun h4 => absurd h4 he, h3⟩⟩
  ·
   rw [if_neg hp, if_neg hp]
   exact restF_iff p ds least e h
theorem restOk_iff (p : Int) : ∀ (l : List S44) (e : Int), (∀ d ∈ l, dOk d) → (restOk p e l ↔ ((0 ≤ e → ∀ d ∈ l, d.f0 = p → e + 11 ≤ d.f1) ∧ l.Pairwise (fun a b => a.f0 = p → b.f0 = p → a.f2 + 11 ≤ b.f1)))
 | [], e, _ => by simp [restOk]
 | d :: ds, e, hO => by
  have hd := hO d (by simp)
  unfold dOk at hd
  have hO' : ∀ d ∈ ds, dOk d := fun x hx => hO x (by simp [hx])
  simp only [restOk, List.pairwise_cons]
  by_cases hp : d.f0 = p
  ·
   rw [if_pos hp, restOk_iff p ds d.f2 hO']
   constructor
   ·
    rintro ⟨h1, h2, h3⟩
    have h2' := h2 (by omega)
    refine ⟨fun he x hx hxp => ?_, fun x hx _ hxp => h2' x hx hxp, h3⟩
    rcases List.mem_cons.1 hx with rfl | hx
    ·
     exact h1 he
    ·
     have := h1 he; have := h2' x hx hxp; omega
   ·
    rintro ⟨h1, h2, h3⟩
    exact ⟨fun he => h1 he d (by simp) hp, fun _ x hx hxp => h2 x hx hp hxp, h3⟩
  ·
   rw [if_neg hp, restOk_iff p ds e hO']
   constructor
   ·
    rintro ⟨h1, h2⟩
    refine ⟨fun he x hx hxp => ?_, fun x hx h => absurd h hp, h2⟩
    rcases List.mem_cons.1 hx with rfl | hx
    ·
     exact absurd hxp hp
    ·
     exact h1 he x hx hxp
   ·
    rintro ⟨h1, _, h3⟩
    exact ⟨fun he x hx hxp => h1 he x (by simp [hx]) hxp, h3⟩
theorem rests_iff (l : List S44) (hO : ∀ d ∈ l, dOk d) : l.Pairwise dRest ↔ ∀ p : Int, 1 ≤ p → p ≤ 8 → restOk p (-1) l := by
 constructor
 ·
  intro h p _ _
  rw [restOk_iff p l (-1) hO]
  exact ⟨fun h => by omega, h.imp fun h1 h2 h3 => h1 (h2.trans h3.symm)⟩
 ·
  intro h
  rw [List.pairwise_iff_getElem]
  intro i j hi hj hij he
  have ho := hO l[i] (List.getElem_mem _)
  unfold dOk at ho
  have h1 := ((restOk_iff l[i].f0 l (-1) hO).1 (h _ (by omega) (by omega))).2
  exact List.pairwise_iff_getElem.1 h1 i j hi hj hij rfl he.symm
theorem good_l1 (l : List S44) (hl : l.length ≤ 1099511627776) (hR : Row1 l) : ∀ (d : Nat) (p : Int), (9 - p).toNat = d → 1 ≤ p → p ≤ 9 → (∀ q : Int, 1 ≤ q → q < p → restOk q (-1) l) →
  Ev (fun k => spec_l25Good.l1 k l p) (planB l) := by
 intro d
 induction d with
 | zero =>
  intro p hd h1 h2 hq
  refine Ev.step (fun k => by rw [spec_l25Good.l1]) ?_
  refine Ev.neg (by omega) (Ev.const ?_)
  congr 1
  rw [Bool.eq_iff_iff, planB_true]
  have := (rests_iff l hR.1).2 (fun q h3 h4 => hq q h3 (by omega))
  rw [decide_eq_true_eq]
  exact ⟨fun h => ⟨⟨hR.1, hR.2, this⟩, by omega⟩, fun h => by have := h.2; omega⟩
 | succ d ih =>
  intro p hd h1 h2 hq
  refine Ev.step (fun k => by rw [spec_l25Good.l1]) ?_
  refine Ev.pos (by omega) (Ev.bind (restEv p l hl hR.1) ?_)
  have hi := restF_iff p l (-1) (-1) (.inl (by omega))
  have hbad : (0 ≤ restF p (-1) (-1) l ∧ restF p (-1) (-1) l < 11) → planB l = false := fun h => planB_not fun hP => hi.1 h ((rests_iff l hR.1).1 hP.1.2.2 p h1 (by omega))
  have hgood : ¬ (0 ≤ restF p (-1) (-1) l ∧ restF p (-1) (-1) l < 11) → Ev (fun k => spec_l25Good.l1 k l (wrap64 (p + 1))) (planB l) := fun h => by
   rw [w64 (by omega) (by omega)]
   refine ih (p + 1) (by omega) (by omega) (by omega) (fun q h3 h4 => ?_)
   by_cases e : q = p
   ·
    subst e; exact Classical.byContradiction fun hn => h (hi.2 hn)
   ·
    exact hq q h3 (by omega)
  refine Ev.cases (fun h3 => ?_) (fun h3 => hgood (by omega))
  refine Ev.cases (fun h4 => Ev.const (by rw [hbad ⟨h3, h4⟩])) (fun h4 => hgood (by omega))
theorem good_l0 (l : List S44) (hl : l.length ≤ 1099511627776) : ∀ (d i : Nat), l.length - i = d → i ≤ l.length → Row1 (l.take i) →
  Ev (fun k => spec_l25Good.l0 k l (i : Int)) (planB l) := by
 intro d
 induction d with
 | zero =>
  intro i hd hi hR
  obtain rfl : i = l.length := by omega
  rw [List.take_length] at hR
  refine Ev.step (fun k => by rw [spec_l25Good.l0]) ?_
  exact Ev.neg (by omega) (good_l1 l hl hR _ 1 rfl (by omega) (by omega) (fun q h1 h2 => by omega))
 | succ d ih =>
  intro i hd hi hR
  have hlt : i < l.length := by omega
  refine Ev.step (fun k => by rw [spec_l25Good.l0]) ?_
  refine Ev.pos (by omega) (Ev.pos (by omega) ?_)
  rw [rdP_lt l i hlt]
  have hno : ∀ x : Bool, (¬ Plan l) → x = true → Ev (fun k => spec_l25Good.j1 k l (i : Int) x l[i].f0 l[i].f1 l[i].f2) (planB l) := fun x hn hx => by
   subst hx
   refine Ev.step (fun k => by rw [spec_l25Good.j1]) ?_
   rw [planB_not hn]
   exact Ev.pos rfl (Ev.now _)
  refine Ev.bindc (b := decide (1 ≤ l[i].f0 ∧ l[i].f0 ≤ 8)) (by unfold spec_l25Person.f; rw [l1In_f]; rfl) ?_
  refine Ev.cases (fun h1 => ?_) (fun h1 => hno _ (fun hP => ?_) rfl)
  rotate_left
  ·
   have := plan_dOk hP hlt; unfold dOk at this; simp at h1; omega
  have h1' : 1 ≤ l[i].f0 ∧ l[i].f0 ≤ 8 := of_decide_eq_true h1
  refine Ev.cases (fun h2 => hno _ (fun hP => ?_) rfl) (fun h2 => ?_)
  ·
   have := plan_dOk hP hlt; unfold dOk at this; omega
  refine Ev.cases (fun h3 => hno _ (fun hP => ?_) rfl) (fun h3 => ?_)
  ·
   have := plan_dOk hP hlt; unfold dOk at this; omega
  refine Ev.cases (fun h4 => hno _ (fun hP => ?_) rfl) (fun h4 => ?_)
  ·
   have := plan_dOk hP hlt; unfold dOk at this; omega
  rw [w64 (x := l[i].f2 - l[i].f1) (by omega) (by omega)]
  by_cases h5 : l[i].f2 - l[i].f1 > 12
  ·
   exact hno _ (fun hP => by have := plan_dOk hP hlt; unfold dOk at this; omega) (decide_eq_true h5)
  rw [decide_eq_false h5]
  have ho : dOk l[i] := by unfold dOk; omega
  have hyes : (∀ (hp : 0 < i), dLt (l[i - 1]'(by omega)) l[i]) → Ev (fun k => spec_l25Good.l0 k l (wrap64 ((i : Int) + 1))) (planB l) := fun h0 => by
   rw [w64 (by omega) (by omega), show (i : Int) + 1 = ((i + 1 : Nat) : Int) from by omega]
   exact ih (i + 1) (by omega) (by omega) (row1_step hlt hR ho h0)
  refine Ev.step (fun k => by rw [spec_l25Good.j1]) ?_
  refine Ev.neg (by decide) (Ev.cases (fun hp => ?_) (fun hp => hyes (fun h => by omega)))
  have hpi : 0 < i := by omega
  have ew : wrap64 ((i : Int) - 1) = ((i - 1 : Nat) : Int) := by rw [w64 (by omega) (by omega)]; omega
  rw [ew, rdP_lt l (i - 1) (by omega)]
  have hbad : ¬ dLt (l[i - 1]'(by omega)) l[i] → planB l = false := fun h => planB_not fun hP => h (plan_order hP.1.2.1 hlt hpi)
  refine Ev.pos (by omega) (Ev.pos (by omega) ?_)
  refine Ev.cases (fun h6 => Ev.const (by rw [hbad (by unfold dLt; omega)])) (fun h6 => ?_)
  refine Ev.cases (fun h7 => ?_) (fun h7 => hyes (fun _ => by unfold dLt; omega))
  exact Ev.cases (fun h8 => Ev.const (by rw [hbad (by unfold dLt; omega)])) (fun h8 => hyes (fun _ => by unfold dLt; omega))
theorem specGood (l : List S44) (hl : l.length ≤ 1099511627776) : Ev (fun k => spec_l25Good.f k l) (planB l) := by
 unfold spec_l25Good.f
 exact good_l0 l hl _ 0 rfl (by omega) ⟨by simp, by simp⟩
end Go.Proofs.Ythhjhbndnipdgaa.Pure

/- Sorting and inserting duties come to one list. -/
namespace Go.Proofs.Ythhjhbndnipdgaa.Pure
open Go.RowKit Go.Proofs.Ythhjhbndnipdgaa.P Go.Proofs.YthhjhbndnipdgaaW.PrintWords Go.Proofs.YthhjhbndnipdgaaW.PrintLast
set_option linter.unusedVariables false

instance (a b : S44) : Decidable (dLt a b) := by unfold dLt; infer_instance
def wLe (a b : S44) : Prop := ¬ dLt b a
def dKey (a b : S44) : Prop := dLt a b ∨ dLt b a
theorem wLe_trans {a b c : S44} (h1 : wLe a b) (h2 : wLe b c) : wLe a c := by unfold wLe dLt at *; omega
theorem wLe_of_dLt {a b : S44} (h : dLt a b) : wLe a b := by unfold wLe dLt at *; omega
theorem dKey_symm {a b : S44} (h : dKey a b) : dKey b a := Or.symm h
theorem strict_of {l : List S44} (h1 : l.Pairwise wLe) (h2 : l.Pairwise dKey) : l.Pairwise dLt := by
 rw [List.pairwise_iff_getElem] at *
 intro i j hi hj hij
 exact (h2 i j hi hj hij).resolve_right (h1 i j hi hj hij)
/-- Two arrangements of the same duties in order are one where no two duties begin at one hour with one person. -/
theorem uniqD {a b : List S44} (hp : a.Perm b) (ha : a.Pairwise wLe) (hb : b.Pairwise wLe) (hk : a.Pairwise dKey) : a = b :=
 strict_ext dLt (fun a b h1 h2 => dLt_irrefl a (dLt_trans h1 h2)) a b (strict_of ha hk) (strict_of hb ((List.Perm.pairwise_iff (R := dKey) (fun h => dKey_symm h) hp).1 hk)) (fun x => hp.mem_iff)
theorem sortD_perm (l : List S44) : (sortD l).Perm l := by
 have h := (Go.Sort.pdq_sorts (ltOf cmpD) swoD l.toArray 0 l.toArray.size (Lib.bitLen l.toArray.size) true true (Nat.zero_le _) (Nat.le_refl _) (Or.inl rfl)).1
 have h1 := h.1
 have h2 := h.2.2
 unfold sortD
 generalize Go.Sort.pdq (ltOf cmpD) l.toArray 0 l.toArray.size (Lib.bitLen l.toArray.size) true true = d at h1 h2 ⊢
 rw [← h1] at h2
 rw [Array.extract_size] at h2
 rw [h1, Array.extract_size] at h2
 simpa using h2
theorem sortD_sorted (l : List S44) : (sortD l).Pairwise wLe := by
 have h0 := Go.Sort.pdq_sorts (ltOf cmpD) swoD l.toArray 0 l.toArray.size (Lib.bitLen l.toArray.size) true true (Nat.zero_le _) (Nat.le_refl _) (Or.inl rfl)
 have h1 := h0.1.1
 have h2 := h0.2
 unfold sortD
 generalize Go.Sort.pdq (ltOf cmpD) l.toArray 0 l.toArray.size (Lib.bitLen l.toArray.size) true true = d at h1 h2 ⊢
 rw [List.pairwise_iff_getElem]
 intro i j hi hj hij
 have hi' : i < d.size := by simpa using hi
 have hj' : j < d.size := by simpa using hj
 have h3 := h2 i j (Nat.zero_le _) hij (by omega)
 rw [ltD, getElem!_pos d i hi', getElem!_pos d j hj'] at h3
 have h4 := of_decide_eq_false h3
 simpa [wLe, dLt] using h4

/-! ### inserting -/
def putK (l : List S44) (d : S44) : Nat → Nat
 | 0 => 0
 | n + 1 => if dLt d (l.getD n z44) then putK l d n else n + 1
theorem putK_le (l : List S44) (d : S44) : ∀ n, putK l d n ≤ n
 | 0 => Nat.le_refl _
 | n + 1 => by
  have := putK_le l d n
  simp only [putK]
  split <;> omega
theorem putK_above (l : List S44) (d : S44) : ∀ n j, putK l d n ≤ j → j < n → dLt d (l.getD j z44)
 | 0, j, _, h => by omega
 | n + 1, j, h1, h2 => by
  simp only [putK] at h1
  split at h1
  ·
   rename_i hc
   by_cases e : j = n
   ·
    subst e; exact hc
   ·
    exact putK_above l d n j h1 (by omega)
  ·
   omega
theorem putK_below (l : List S44) (d : S44) : ∀ n, 0 < putK l d n → ¬ dLt d (l.getD (putK l d n - 1) z44)
 | 0, h => by simp [putK] at h
 | n + 1, h => by
  simp only [putK] at h ⊢
  split
  ·
   rename_i hc
   rw [if_pos hc] at h
   exact putK_below l d n h
  ·
   rename_i hc
   simpa using hc
def putD (l : List S44) (d : S44) : List S44 := l.take (putK l d l.length) ++ d :: l.drop (putK l d l.length)
theorem putD_perm (l : List S44) (d : S44) : (putD l d).Perm (d :: l) := by
 unfold putD
 have := List.perm_middle (a := d) (l₁ := l.take (putK l d l.length)) (l₂ := l.drop (putK l d l.length))
 rwa [List.take_append_drop] at this
theorem putD_len (l : List S44) (d : S44) : (putD l d).length = l.length + 1 := (putD_perm l d).length_eq
theorem putD_sorted (l : List S44) (d : S44) (h : l.Pairwise wLe) : (putD l d).Pairwise wLe := by
 unfold putD
 have hk := putK_le l d l.length
 have ha := putK_above l d l.length
 have hb := putK_below l d l.length
 generalize putK l d l.length = k at hk ha hb ⊢
 have hbef : ∀ a ∈ l.take k, wLe a d := fun a hm => by
  obtain ⟨j, hj, rfl⟩ := List.getElem_of_mem hm
  have hj' : j < k := by simp at hj; omega
  have h1 := hb (by omega)
  have hlt : k - 1 < l.length := by omega
  have h2 : wLe l[k - 1] d := by unfold wLe; simpa [hlt] using h1
  by_cases e : j = k - 1
  ·
   subst e; simpa using h2
  ·
   have h3 := List.pairwise_iff_getElem.1 h j (k - 1) (by omega) hlt (by omega)
   simpa using wLe_trans h3 h2
 have haft : ∀ b ∈ l.drop k, wLe d b := fun b hm => by
  obtain ⟨j, hj, rfl⟩ := List.getElem_of_mem hm
  have hj' : k + j < l.length := by simp at hj; omega
  have h1 := ha (k + j) (by omega) hj'
  have h2 : dLt d l[k + j] := by simpa [hj'] using h1
  simpa using wLe_of_dLt h2
 have hs := h
 rw [← List.take_append_drop k l] at hs
 have hs := List.pairwise_append.1 hs
 refine List.pairwise_append.2 ⟨hs.1, List.pairwise_cons.2 ⟨haft, hs.2.1⟩, fun a hm b hb2 => ?_⟩
 rcases List.mem_cons.1 hb2 with rfl | hb2
 ·
  exact hbef a hm
 ·
  exact hs.2.2 a hm b hb2
theorem put_l0 (l : List S44) (d : S44) (hl : l.length ≤ 1099511627776) : ∀ n : Nat, n ≤ l.length →
  Ev (fun k => spec_l25Put.l0 k l (n : Int) d.f0 d.f1 d.f2) (l.take (putK l d n) ++ d :: l.drop (putK l d n)) := by
 intro n
 induction n with
 | zero =>
  intro hn
  refine Ev.step (fun k => by rw [spec_l25Put.l0]) ?_
  refine Ev.neg (by omega) (Ev.const ?_)
  simp only [Option.bind_some]
  rw [if_pos (by omega), if_pos (by omega), if_pos (by first | (simp; done) | (simp; omega)), if_pos (by first | (simp; done) | (simp; omega)), if_pos (by first | (simp; done) | (simp; omega))]
  simp [putK]
 | succ n ih =>
  intro hn
  refine Ev.step (fun k => by rw [spec_l25Put.l0]) ?_
  have ew : wrap64 (((n + 1 : Nat) : Int) - 1) = (n : Int) := by rw [w64 (by omega) (by omega)]; omega
  refine Ev.pos (by omega) ?_
  rw [ew, rdP_lt l n (by omega)]
  have hg : l.getD n z44 = l[n] := by simp [show n < l.length by omega]
  have hdown : dLt d l[n] → Ev (fun k => spec_l25Put.l0 k l (n : Int) d.f0 d.f1 d.f2) (l.take (putK l d (n + 1)) ++ d :: l.drop (putK l d (n + 1))) := fun h => by
   simp only [putK, hg]
   rw [if_pos h]
   exact ih (by omega)
  have hend : ¬ dLt d l[n] → putK l d (n + 1) = n + 1 := fun h => by simp only [putK, hg]; rw [if_neg h]
  refine Ev.pos (by omega) (Ev.pos (by omega) ?_)
  refine Ev.cases (fun h1 => hdown (by unfold dLt; omega)) (fun h1 => ?_)
  refine Ev.cases (fun h2 => ?_) (fun h2 => ?_)
  ·
   refine Ev.cases (fun h3 => hdown (by unfold dLt; omega)) (fun h3 => Ev.const ?_)
   rw [hend (by unfold dLt; omega)]
   simp only [Option.bind_some, Int.toNat_natCast]
   rw [if_pos (by omega), if_pos (by omega), if_pos (by first | (simp; done) | (simp; omega)), if_pos (by first | (simp; done) | (simp; omega)), if_pos (by first | (simp; done) | (simp; omega))]
   simp
  ·
   refine Ev.const ?_
   rw [hend (by unfold dLt; omega)]
   simp only [Option.bind_some, Int.toNat_natCast]
   rw [if_pos (by omega), if_pos (by omega), if_pos (by first | (simp; done) | (simp; omega)), if_pos (by first | (simp; done) | (simp; omega)), if_pos (by first | (simp; done) | (simp; omega))]
   simp
theorem putEv (l : List S44) (d : S44) (hl : l.length ≤ 1099511627776) : Ev (fun k => spec_l25Put.f k l d.f0 d.f1 d.f2) (putD l d) := by
 unfold spec_l25Put.f
 exact put_l0 l d hl l.length (Nat.le_refl _)

end Go.Proofs.Ythhjhbndnipdgaa.Pure

/- The drawn plans, persons and hours. -/
namespace Go.Proofs.Ythhjhbndnipdgaa.Pure
open Go.RowKit Go.Proofs.Ythhjhbndnipdgaa.P Go.Proofs.YthhjhbndnipdgaaW.PrintWords Go.Proofs.YthhjhbndnipdgaaW.PrintLast
set_option linter.unusedVariables false

/-- One of the first of some numbers, how many of them being drawn as well. -/
theorem cut_ok {l : List Int} (hc : Code l) {a s : Int} {n : Nat} (h : At a n) (hn : n + 4 ≤ 1000000000) (xs : List Int) (p m : Int) (hp : 1 ≤ p) (hp2 : p ≤ 100) (hm : 1 ≤ m) (hx : m + (p - 1) / 11 ≤ xs.length) (hl : xs.length ≤ 100) :
  ∃ c a1 s1 b a' s', spec_l1Cur_pick.f l a s p = some (c, a1, s1) ∧ 0 ≤ wrap64 (m + wrap64 (Int.tdiv c 11)) ∧ wrap64 (m + wrap64 (Int.tdiv c 11)) ≤ (xs.length : Int) ∧ spec_l1Cur_among.f l a1 s1 (xs.take (wrap64 (m + wrap64 (Int.tdiv c 11))).toNat) = some (b, a', s') ∧ At a' (n + 4) := by
 obtain ⟨c, a1, s1, e1, h0, h1, h2⟩ := pick_ok hc (s := s) h (by omega) p (by omega)
 have ht : Int.tdiv c 11 = c / 11 := Int.tdiv_eq_ediv_of_nonneg h0
 have h3 : c / 11 ≤ (p - 1) / 11 := Int.ediv_le_ediv (by omega) (by omega)
 have h4 : 0 ≤ c / 11 := by omega
 have hw : wrap64 (m + wrap64 (Int.tdiv c 11)) = m + c / 11 := by rw [ht, w64 (x := c / 11) (by omega) (by omega), w64 (by omega) (by omega)]
 have hne : xs.take (m + c / 11).toNat ≠ [] := by
  intro he
  have := congrArg List.length he
  rw [List.length_take, List.length_nil] at this
  omega
 obtain ⟨b, a', s', e2, _, h5⟩ := among_ok hc (s := s1) h2 (by omega) (xs.take (m + c / 11).toNat) hne (by simp; omega)
 refine ⟨c, a1, s1, b, a', s', e1, ?_, ?_, ?_, h5.le (by omega) (by omega)⟩
 ·
  rw [hw]; omega
 ·
  rw [hw]; omega
 ·
  rw [hw]; exact e2
theorem person_ok {l : List Int} (hc : Code l) {a s : Int} {n : Nat} (h : At a n) (hn : n + 4 ≤ 1000000000) : ∃ b a' s', spec_l1Cur_person25.f l a s = some (b, a', s') ∧ At a' (n + 4) := by
 obtain ⟨c, a1, s1, b, a', s', e1, h1, h2, e2, h3⟩ := cut_ok hc (s := s) h hn [1, 2, 3, 4, 8, 0, 9] 24 5 (by omega) (by omega) (by omega) (by simp) (by simp)
 refine ⟨b, a', s', ?_, h3⟩
 unfold spec_l1Cur_person25.f
 simp only [Option.bind_some]
 rw [e1]
 simp only [Option.bind_some]
 rw [if_pos h1, if_pos h2, e2]
 rfl
theorem plan_l1 {l : List Int} (hc : Code l) (x7 p q t : Int) (h7 : 0 ≤ x7) : ∀ (d : Nat) (x : List S44) (x9 a s : Int) (n : Nat), 21 - x.length = d → At a n → n + 100 ≤ 1000000000 + 2 * x.length → x.length ≤ 21 → x7 < x.length → n ≤ 900000000 + 2 * x.length →
  ∃ r a' s', Ev (fun k => spec_l1Cur_plan25.l1 k x x7 x9 l a s p q t) (r, a', s') ∧ r.length ≤ 21 ∧ At a' (n + 2 * (d + 1)) := by
 intro d
 induction d with
 | zero =>
  intro x x9 a s n hd h h1 hx hx7 hn
  obtain ⟨b, a', s', e, hb0, hb1, h'⟩ := pick_ok hc (s := s) h (by omega) 2 (by omega)
  refine ⟨x.set x7.toNat ⟨p, q, t⟩, a', s', ?_, by simpa using hx, h'⟩
  refine Ev.step (fun k => by rw [spec_l1Cur_plan25.l1]) ?_
  refine Ev.bindc e (Ev.neg ?_ (Ev.pos h7 (Ev.pos hx7 (Ev.now _))))
  simp only
  rw [w64 (by omega) (by omega)]; omega
 | succ d ih =>
  intro x x9 a s n hd h h1 hx hx7 hn
  obtain ⟨b, a', s', e, hb0, hb1, h'⟩ := pick_ok hc (s := s) h (by omega) 2 (by omega)
  by_cases c : (x.length : Int) < wrap64 (20 + b)
  ·
   obtain ⟨r, a2, s2, e2, hr, h3⟩ := ih (x ++ [⟨wrap64 (1 + (Int.tmod x9 8)), wrap64 (100 + (wrap64 (24 * (wrap64 (Int.tdiv x9 8))))), wrap64 (104 + (wrap64 (24 * (wrap64 (Int.tdiv x9 8)))))⟩]) (wrap64 (x9 + 1)) a' s' (n + 2) (by simp; omega) h' (by simp; omega) (by simp; omega) (by simp; omega) (by simp; omega)
   refine ⟨r, a2, s2, ?_, hr, h3.le (by omega) (by omega)⟩
   refine Ev.step (fun k => by rw [spec_l1Cur_plan25.l1]) ?_
   exact Ev.bindc e (Ev.pos c (Ev.pos (by omega) e2))
  ·
   refine ⟨x.set x7.toNat ⟨p, q, t⟩, a', s', ?_, by simpa using hx, h'.le (by omega) (by omega)⟩
   refine Ev.step (fun k => by rw [spec_l1Cur_plan25.l1]) ?_
   exact Ev.bindc e (Ev.neg c (Ev.pos h7 (Ev.pos hx7 (Ev.now _))))
theorem plan_l0 {l : List Int} (hc : Code l) : ∀ (d : Nat) (x : List S44) (a s : Int) (n : Nat), x.length + d ≤ 8 → At a n → n + 6 * d ≤ 800000000 →
  ∃ r a' s', Ev (fun k => spec_l1Cur_plan25.l0 k x (d : Int) l a s) (r, a', s') ∧ r.length ≤ 21 ∧ At a' (n + 6 * d + 50) := by
 intro d
 induction d with
 | zero =>
  intro x a s n hx h hn
  by_cases c : (x.length : Int) = 0
  ·
   refine ⟨x, a, s, ?_, by omega, h.le (by omega) (by omega)⟩
   refine Ev.step (fun k => by rw [spec_l1Cur_plan25.l0]) ?_
   exact Ev.neg (by omega) (Ev.pos c (Ev.now _))
  ·
   obtain ⟨b, a1, s1, e1, hb0, hb1, h1⟩ := pick_ok hc (s := s) h (by omega) (x.length : Int) (by omega)
   obtain ⟨b2, a2, s2, e2, hc0, hc1, h2⟩ := pick_ok hc (s := s1) h1 (by omega) 40 (by omega)
   by_cases c0 : b2 = 0
   ·
    obtain ⟨b3, a3, s3, e3, _, h3⟩ := among_ok hc (s := s2) h2 (by omega) [0, 9, 1] (by simp) (by simp)
    refine ⟨x.set b.toNat ⟨b3, (rd_T44 x b).f1, (rd_T44 x b).f2⟩, a3, s3, ?_, ?_, h3.le (by omega) (by omega)⟩
    ·
     refine Ev.step (fun k => by rw [spec_l1Cur_plan25.l0]) ?_
     exact Ev.neg (by omega) (Ev.neg c (Ev.bindc e1 (Ev.pos hb0 (Ev.pos (by simp only; omega) (Ev.bindc e2 (Ev.pos c0 (Ev.bindc e3 (Ev.now _))))))))
    ·
     simp; omega
   ·
    by_cases c1 : b2 = 1
    ·
     obtain ⟨b3, a3, s3, e3, _, h3⟩ := among_ok hc (s := s2) h2 (by omega) [(rd_T44 x b).f1, wrap64 (((rd_T44 x b).f1) + 13), 241] (by simp) (by simp)
     refine ⟨x.set b.toNat ⟨(rd_T44 x b).f0, (rd_T44 x b).f1, b3⟩, a3, s3, ?_, ?_, h3.le (by omega) (by omega)⟩
     ·
      refine Ev.step (fun k => by rw [spec_l1Cur_plan25.l0]) ?_
      exact Ev.neg (by omega) (Ev.neg c (Ev.bindc e1 (Ev.pos hb0 (Ev.pos (by simp only; omega) (Ev.bindc e2 (Ev.neg c0 (Ev.pos c1 (Ev.bindc e3 (Ev.now _)))))))))
     ·
      simp; omega
    ·
     by_cases c2 : b2 = 2
     ·
      obtain ⟨b3, a3, s3, e3, _, h3⟩ := among_ok hc (s := s2) h2 (by omega) [(-1), wrap64 (((rd_T44 x b).f2) - 13)] (by simp) (by simp)
      refine ⟨x.set b.toNat ⟨(rd_T44 x b).f0, b3, (rd_T44 x b).f2⟩, a3, s3, ?_, ?_, h3.le (by omega) (by omega)⟩
      ·
       refine Ev.step (fun k => by rw [spec_l1Cur_plan25.l0]) ?_
       exact Ev.neg (by omega) (Ev.neg c (Ev.bindc e1 (Ev.pos hb0 (Ev.pos (by simp only; omega) (Ev.bindc e2 (Ev.neg c0 (Ev.neg c1 (Ev.pos c2 (Ev.bindc e3 (Ev.now _))))))))))
      ·
       simp; omega
     ·
      by_cases c3 : b2 = 3
      ·
       obtain ⟨r, a3, s3, e3, hr, h3⟩ := plan_l1 hc b ((rd_T44 x b).f0) ((rd_T44 x b).f1) ((rd_T44 x b).f2) hb0 _ x 0 a2 s2 (n + 2 + 2) rfl h2 (by omega) (by omega) (by omega) (by omega)
       refine ⟨r, a3, s3, ?_, hr, h3.le (by omega) (by omega)⟩
       refine Ev.step (fun k => by rw [spec_l1Cur_plan25.l0]) ?_
       exact Ev.neg (by omega) (Ev.neg c (Ev.bindc e1 (Ev.pos hb0 (Ev.pos (by simp only; omega) (Ev.bindc e2 (Ev.neg c0 (Ev.neg c1 (Ev.neg c2 (Ev.pos c3 e3)))))))))
      ·
       refine ⟨x.set b.toNat ⟨(rd_T44 x b).f0, (rd_T44 x b).f1, (rd_T44 x b).f2⟩, a2, s2, ?_, ?_, h2.le (by omega) (by omega)⟩
       ·
        refine Ev.step (fun k => by rw [spec_l1Cur_plan25.l0]) ?_
        exact Ev.neg (by omega) (Ev.neg c (Ev.bindc e1 (Ev.pos hb0 (Ev.pos (by simp only; omega) (Ev.bindc e2 (Ev.neg c0 (Ev.neg c1 (Ev.neg c2 (Ev.neg c3 (Ev.now _))))))))))
       ·
        simp; omega
 | succ d ih =>
  intro x a s n hx h hn
  obtain ⟨b, a1, s1, e1, _, _, h1⟩ := pick_ok hc (s := s) h (by omega) 4 (by omega)
  obtain ⟨c, a2, s2, e2, _, h2⟩ := among_ok hc (s := s1) h1 (by omega) [0, 8, 12, 16, 24, 31, 36, 60] (by simp) (by simp)
  obtain ⟨f, a3, s3, e3, _, h3⟩ := among_ok hc (s := s2) h2 (by omega) [4, 8, 12] (by simp) (by simp)
  have ep := putEv x ⟨wrap64 (1 + b), c, wrap64 (c + f)⟩ (by omega)
  have hpl := putD_len x ⟨wrap64 (1 + b), c, wrap64 (c + f)⟩
  have eg := specGood (putD x ⟨wrap64 (1 + b), c, wrap64 (c + f)⟩) (by omega)
  by_cases hg : planB (putD x ⟨wrap64 (1 + b), c, wrap64 (c + f)⟩) = true
  ·
   obtain ⟨r, a4, s4, e4, hr, h4⟩ := ih (putD x ⟨wrap64 (1 + b), c, wrap64 (c + f)⟩) a3 s3 (n + 2 + 2 + 2) (by omega) h3 (by omega)
   refine ⟨r, a4, s4, ?_, hr, h4.le (by omega) (by omega)⟩
   refine Ev.step (fun k => by rw [spec_l1Cur_plan25.l0]) ?_
   refine Ev.pos (by omega) (Ev.bindc e1 (Ev.bindc e2 (Ev.bindc e3 (Ev.bind ep (Ev.bind eg (Ev.pos hg ?_))))))
   rw [w64 (x := ((d + 1 : Nat) : Int) - 1) (by omega) (by omega), show ((d + 1 : Nat) : Int) - 1 = (d : Int) from by omega]
   exact e4
  ·
   obtain ⟨r, a4, s4, e4, hr, h4⟩ := ih x a3 s3 (n + 2 + 2 + 2) (by omega) h3 (by omega)
   refine ⟨r, a4, s4, ?_, hr, h4.le (by omega) (by omega)⟩
   refine Ev.step (fun k => by rw [spec_l1Cur_plan25.l0]) ?_
   refine Ev.pos (by omega) (Ev.bindc e1 (Ev.bindc e2 (Ev.bindc e3 (Ev.bind ep (Ev.bind eg (Ev.neg hg ?_))))))
   rw [w64 (x := ((d + 1 : Nat) : Int) - 1) (by omega) (by omega), show ((d + 1 : Nat) : Int) - 1 = (d : Int) from by omega]
   exact e4
theorem plan_ok {l : List Int} (hc : Code l) {a s : Int} {n : Nat} (h : At a n) (hn : n ≤ 700000000) : ∃ r a' s', Ev (fun k => spec_l1Cur_plan25.f k l a s) (r, a', s') ∧ r.length ≤ 21 ∧ At a' (n + 200) := by
 obtain ⟨b, a1, s1, e1, hb0, hb1, h1⟩ := pick_ok hc (s := s) h (by omega) 9 (by omega)
 obtain ⟨d, rfl⟩ : ∃ d : Nat, b = d := ⟨b.toNat, by omega⟩
 obtain ⟨r, a2, s2, e2, hr, h2⟩ := plan_l0 hc d [] a1 s1 (n + 2) (by simp; omega) h1 (by omega)
 refine ⟨r, a2, s2, ?_, hr, h2.le (by omega) (by omega)⟩
 unfold spec_l1Cur_plan25.f
 exact Ev.bindc e1 e2
theorem at00 : At 0 0 := ⟨by omega, by omega, by omega⟩
theorem drawPlan {l : List Int} (hc : Code l) : ∃ r, Ev (fun k => spec_DrawHandoverHours.f k l) r ∧ r.length ≤ 21 := by
 obtain ⟨r, a, s, e, hr, _⟩ := plan_ok hc (s := 0) at00 (by omega)
 refine ⟨r, ?_, hr⟩
 unfold spec_DrawHandoverHours.f spec_DrawIsValidPlan.f
 exact Ev.bind (Ev.bindc (b := (l, 0, 0)) rfl (Ev.bind e (Ev.now _))) (Ev.now _)
theorem drawUnc {l : List Int} (hc : Code l) : ∃ r p u v, Ev (fun k => spec_DrawUncoveredHours.f k l) (r, p, u, v) ∧ r.length ≤ 21 := by
 obtain ⟨r, a, s, e, hr, h⟩ := plan_ok hc (s := 0) at00 (by omega)
 obtain ⟨c0, a1, s1, p, a2, s2, e1, g5, g6, e2, h2⟩ := cut_ok hc (s := s) h (by omega) [0, 5, 30, 240, (-1)] 12 4 (by omega) (by omega) (by omega) (by simp) (by simp)
 obtain ⟨c, a3, s3, u, a4, s4, e3, g1, g2, e4, h4⟩ := cut_ok hc (s := s2) h2 (by omega) [p, wrap64 (p + 10), 48, 240, 241, 3] 24 4 (by omega) (by omega) (by omega) (by simp) (by simp)
 obtain ⟨c', a5, s5, v, a6, s6, e5, g3, g4, e6, h6⟩ := cut_ok hc (s := s4) h4 (by omega) [1, 2, 3, 8, 0, 9] 24 4 (by omega) (by omega) (by omega) (by simp) (by simp)
 refine ⟨r, p, u, v, ?_, hr⟩
 unfold spec_DrawUncoveredHours.f
 exact Ev.bindc (b := (l, 0, 0)) rfl (Ev.bind e (Ev.bindc rfl (Ev.bindc e1 (Ev.pos g5 (Ev.pos g6 (Ev.bindc e2 (Ev.bindc rfl (Ev.bindc e3 (Ev.pos g1 (Ev.pos g2 (Ev.bindc e4 (Ev.bindc rfl (Ev.bindc e5 (Ev.pos g3 (Ev.pos g4 (Ev.bindc e6 (Ev.now _)))))))))))))))))
theorem drawEx {l : List Int} (hc : Code l) : ∃ r p u, Ev (fun k => spec_DrawExchangePersons.f k l) (r, p, u) ∧ r.length ≤ 21 := by
 obtain ⟨r, a, s, e, hr, h⟩ := plan_ok hc (s := 0) at00 (by omega)
 obtain ⟨p, a2, s2, e2, h2⟩ := person_ok hc (s := s) h (by omega)
 obtain ⟨u, a3, s3, e3, h3⟩ := person_ok hc (s := s2) h2 (by omega)
 refine ⟨r, p, u, ?_, hr⟩
 unfold spec_DrawExchangePersons.f
 exact Ev.bindc (b := (l, 0, 0)) rfl (Ev.bind e (Ev.bindc e2 (Ev.bindc e3 (Ev.now _))))
end Go.Proofs.Ythhjhbndnipdgaa.Pure

/- The hours of a person's duties and the shortest rest between them: the program's loops and the reference's. -/
namespace Go.Proofs.Ythhjhbndnipdgaa.Pure
open Go.RowKit Go.Proofs.Ythhjhbndnipdgaa.P Go.Proofs.YthhjhbndnipdgaaW.PrintWords Go.Proofs.YthhjhbndnipdgaaW.PrintLast
set_option linter.unusedVariables false

def sumH (p : Int) : List S44 → Int
 | [] => 0
 | d :: ds => (if d.f0 = p then d.f2 - d.f1 else 0) + sumH p ds
open Classical in
noncomputable def dutyHoursT (l : List S44) (p : Int) : Int × Bool := if planB l = true ∧ 1 ≤ p ∧ p ≤ 8 then (sumH p l, true) else (0, false)
theorem hours_l0 (p : Int) (l : List S44) (hl : l.length ≤ 20) (hO : ∀ d ∈ l, dOk d) : ∀ (d i : Nat) (acc : Int), l.length - i = d → i ≤ l.length → 0 ≤ acc → acc ≤ 12 * i →
  Ev (fun k => impl_DutyHours.l0 k p acc l (l.length : Int) (i : Int)) (acc + sumH p (l.drop i), true) := by
 intro d
 induction d with
 | zero =>
  intro i acc hd hi h1 h2
  refine Ev.step (fun k => by rw [impl_DutyHours.l0]) ?_
  refine Ev.neg (by omega) (Ev.const ?_)
  rw [List.drop_of_length_le (by omega)]; simp [sumH]
 | succ d ih =>
  intro i acc hd hi h1 h2
  have hlt : i < l.length := by omega
  have ho := hO l[i] (List.getElem_mem _)
  unfold dOk at ho
  refine Ev.step (fun k => by rw [impl_DutyHours.l0]) ?_
  refine Ev.pos (by omega) (Ev.pos (by omega) (Ev.pos (by omega) ?_))
  rw [rdP_lt l i hlt, w64 (x := (i : Int) + 1) (by omega) (by omega), show (i : Int) + 1 = ((i + 1 : Nat) : Int) from by omega, drop_cons' l i hlt, w64 (x := l[i].f2 - l[i].f1) (by omega) (by omega), w64 (x := acc + (l[i].f2 - l[i].f1)) (by omega) (by omega)]
  simp only [sumH]
  refine Ev.cases (fun hp => ?_) (fun hp => ?_)
  ·
   rw [if_pos hp]
   exact Ev.eq (ih (i + 1) _ (by omega) (by omega) (by omega) (by omega)) (by congr 1; omega)
  ·
   rw [if_neg hp]
   exact Ev.eq (ih (i + 1) _ (by omega) (by omega) (by omega) (by omega)) (by congr 1; omega)
theorem dutyHours_impl (l : List S44) (p : Int) (hl : l.length ≤ 1099511627776) : Ev (fun k => impl_DutyHours.f k l p) (dutyHoursT l p) := by
 unfold impl_DutyHours.f dutyHoursT
 have hbad : ∀ x, x = true → Ev (fun k => impl_DutyHours.j0 k l p x) (0, false) := fun x hx => by
  subst hx
  refine Ev.step (fun k => by rw [impl_DutyHours.j0]) ?_
  exact Ev.pos rfl (Ev.now _)
 refine Ev.bind (isValidPlan l hl) (Ev.cases (fun h1 => ?_) (fun h1 => ?_))
 ·
  refine Ev.bindc (within_f _ _ _) ?_
  by_cases h2 : 1 ≤ p ∧ p ≤ 8
  ·
   rw [decide_eq_true h2, if_pos ⟨h1, h2⟩]
   have hP := planB_true.1 h1
   refine Ev.step (fun k => by rw [impl_DutyHours.j0]) ?_
   refine Ev.neg (by decide) ?_
   have h := hours_l0 p l hP.2 hP.1.1 _ 0 0 rfl (by omega) (by omega) (by omega)
   simpa using h
  ·
   rw [decide_eq_false h2, if_neg (fun h => h2 h.2)]
   exact hbad _ rfl
 ·
  rw [if_neg (fun h => h1 h.1)]
  exact hbad _ rfl
/-! ### the shortest rest -/
end Go.Proofs.Ythhjhbndnipdgaa.Pure

/- Who is on duty at an hour; the hours at which too few are; the hours of a handover. -/
namespace Go.Proofs.Ythhjhbndnipdgaa.Pure
open Go.RowKit Go.Proofs.Ythhjhbndnipdgaa.P Go.Proofs.YthhjhbndnipdgaaW.PrintWords Go.Proofs.YthhjhbndnipdgaaW.PrintLast
set_option linter.unusedVariables false

theorem int_ext (a b : List Int) (ha : a.Pairwise (· < ·)) (hb : b.Pairwise (· < ·)) (h : ∀ x, x ∈ a ↔ x ∈ b) : a = b := strict_ext (· < ·) (fun a b h1 h2 => by omega) a b ha hb h

theorem putI_mem : ∀ (l : List Int) (n x : Int), x ∈ putI l n ↔ x = n ∨ x ∈ l
 | [], n, x => by simp [putI]
 | y :: ys, n, x => by
  simp only [putI]
  split
  ·
   rw [List.mem_cons, putI_mem ys n x, List.mem_cons]
   exact ⟨fun h => by rcases h with h | h | h <;> simp [h], fun h => by rcases h with h | h | h <;> simp [h]⟩
  ·
   split
   ·
    rename_i h; subst h; simp
   ·
    simp
theorem putI_sorted : ∀ (l : List Int) (n : Int), l.Pairwise (· < ·) → (putI l n).Pairwise (· < ·)
 | [], n, _ => by simp [putI]
 | y :: ys, n, h => by
  have h' := List.pairwise_cons.1 h
  simp only [putI]
  split
  ·
   refine List.pairwise_cons.2 ⟨fun z hz => ?_, putI_sorted ys n h'.2⟩
   rcases (putI_mem ys n z).1 hz with e | hz
   ·
    rw [e]; assumption
   ·
    exact h'.1 z hz
  ·
   split
   ·
    exact h
   ·
    refine List.pairwise_cons.2 ⟨fun z hz => ?_, h⟩
    rcases List.mem_cons.1 hz with e | hz
    ·
     omega
    ·
     have := h'.1 z hz; omega
theorem foldI_mem : ∀ (xs out : List Int) (x : Int), x ∈ xs.foldl putI out ↔ x ∈ out ∨ x ∈ xs
 | [], out, x => by simp
 | y :: ys, out, x => by
  rw [List.foldl_cons, foldI_mem ys, putI_mem, List.mem_cons]
  exact ⟨fun h => by rcases h with (h | h) | h <;> simp [h], fun h => by rcases h with h | h | h <;> simp [h]⟩
theorem foldI_sorted : ∀ (xs out : List Int), out.Pairwise (· < ·) → (xs.foldl putI out).Pairwise (· < ·)
 | [], out, h => h
 | y :: ys, out, h => foldI_sorted ys _ (putI_sorted out y h)

/-! ### on duty -/
/-- The persons on duty at an hour, in the plan's order. -/
def onL (h : Int) : List S44 → List Int
 | [] => []
 | d :: ds => if d.f1 ≤ h ∧ h ≤ d.f2 - 1 then d.f0 :: onL h ds else onL h ds
theorem onL_mem (h : Int) : ∀ (l : List S44) (x : Int), x ∈ onL h l ↔ ∃ d ∈ l, (d.f1 ≤ h ∧ h ≤ d.f2 - 1) ∧ d.f0 = x
 | [], x => by simp [onL]
 | d :: ds, x => by
  simp only [onL]
  split
  ·
   rw [List.mem_cons, onL_mem h ds x]
   constructor
   ·
    rintro (rfl | ⟨d', h1, h2⟩)
    ·
     exact ⟨d, by simp, by assumption, rfl⟩
    ·
     exact ⟨d', by simp [h1], h2⟩
   ·
    rintro ⟨d', h1, h2, h3⟩
    rcases List.mem_cons.1 h1 with rfl | h1
    ·
     exact .inl h3.symm
    ·
     exact .inr ⟨d', h1, h2, h3⟩
  ·
   rw [onL_mem h ds x]
   constructor
   ·
    rintro ⟨d', h1, h2⟩; exact ⟨d', by simp [h1], h2⟩
   ·
    rintro ⟨d', h1, h2, h3⟩
    rcases List.mem_cons.1 h1 with rfl | h1
    ·
     contradiction
    ·
     exact ⟨d', h1, h2, h3⟩
theorem onL_len (h : Int) : ∀ (l : List S44), (onL h l).length ≤ l.length
 | [] => by simp [onL]
 | d :: ds => by
  have := onL_len h ds
  simp only [onL]
  split <;> simp <;> omega
theorem onL_ne (h : Int) : ∀ (l : List S44), (∀ d ∈ l, dOk d) → l.Pairwise dRest → (onL h l).Pairwise (· ≠ ·)
 | [], _, _ => by simp [onL]
 | d :: ds, hO, hR => by
  have hR' := List.pairwise_cons.1 hR
  have ih := onL_ne h ds (fun x hx => hO x (by simp [hx])) hR'.2
  simp only [onL]
  split
  ·
   rename_i hh
   refine List.pairwise_cons.2 ⟨fun x hx he => ?_, ih⟩
   obtain ⟨d', h1, h2, h3⟩ := (onL_mem h ds x).1 hx
   have h4 := hR'.1 d' h1 (he.trans h3.symm)
   omega
  ·
   exact ih
/-- The same in ascending order. -/
def onS (h : Int) (l : List S44) : List Int := (onL h l).mergeSort fun x y => decide (x ≤ y)
theorem mergeI_le (l : List Int) : (l.mergeSort fun x y => decide (x ≤ y)).Pairwise (· ≤ ·) :=
 (List.pairwise_mergeSort (le := fun x y : Int => decide (x ≤ y)) (fun a b c h1 h2 => by simp at *; omega) (fun a b => by simp; omega) l).imp (fun h => of_decide_eq_true h)
theorem onS_sorted (h : Int) (l : List S44) (hO : ∀ d ∈ l, dOk d) (hR : l.Pairwise dRest) : (onS h l).Pairwise (· < ·) := by
 have h1 := (List.Perm.pairwise_iff (R := fun a b : Int => a ≠ b) (fun h => Ne.symm h) (List.mergeSort_perm (onL h l) fun x y => decide (x ≤ y))).2 (onL_ne h l hO hR)
 have h2 := mergeI_le (onL h l)
 unfold onS
 rw [List.pairwise_iff_getElem] at h1 h2 ⊢
 intro i j hi hj hij
 have a := h1 i j hi hj hij
 have b := h2 i j hi hj hij
 omega
theorem onS_fold (h : Int) (l : List S44) (hO : ∀ d ∈ l, dOk d) (hR : l.Pairwise dRest) : (onL h l).foldl putI [] = onS h l :=
 int_ext _ _ (foldI_sorted _ _ (by simp)) (onS_sorted h l hO hR) (fun x => by
  rw [foldI_mem]; unfold onS; rw [(List.mergeSort_perm _ _).mem_iff]; simp)
theorem onS_len (h : Int) (l : List S44) : (onS h l).length = (onL h l).length := List.length_mergeSort _

theorem onDuty_l0 (h : Int) (l : List S44) (hl : l.length ≤ 20) (hO : ∀ d ∈ l, dOk d) : ∀ (d i : Nat) (acc : List Int), l.length - i = d → i ≤ l.length → acc.length ≤ i →
  Ev (fun k => impl_onDuty.l0 k h acc l (l.length : Int) (i : Int)) (acc ++ onL h (l.drop i)) := by
 intro d
 induction d with
 | zero =>
  intro i acc hd hi ha
  refine Ev.step (fun k => by rw [impl_onDuty.l0]) ?_
  refine Ev.neg (by omega) (Ev.const ?_)
  rw [List.drop_of_length_le (by omega)]; simp [onL]
 | succ d ih =>
  intro i acc hd hi ha
  have hlt : i < l.length := by omega
  have ho := hO l[i] (List.getElem_mem _)
  unfold dOk at ho
  refine Ev.step (fun k => by rw [impl_onDuty.l0]) ?_
  refine Ev.pos (by omega) (Ev.pos (by omega) (Ev.pos (by omega) ?_))
  rw [rdP_lt l i hlt, w64 (x := (i : Int) + 1) (by omega) (by omega), show (i : Int) + 1 = ((i + 1 : Nat) : Int) from by omega, drop_cons' l i hlt, w64 (x := l[i].f2 - 1) (by omega) (by omega)]
  simp only [onL]
  refine Ev.bindc (within_f _ _ _) (Ev.cases (fun h1 => ?_) (fun h1 => ?_))
  ·
   rw [if_pos (of_decide_eq_true h1)]
   refine Ev.pos (by omega) (Ev.eq (ih (i + 1) _ (by omega) (by omega) (by simp; omega)) (by simp))
  ·
   rw [if_neg (by simpa using h1)]
   exact ih (i + 1) _ (by omega) (by omega) (by omega)
theorem onDutyEv (h : Int) (l : List S44) (hP : Plan l) : Ev (fun k => impl_onDuty.f k l h) (onL h l) := by
 unfold impl_onDuty.f
 have := onDuty_l0 h l hP.2 hP.1.1 _ 0 [] rfl (by omega) (by simp)
 simpa using this
theorem on_l0 (h : Int) (l : List S44) (hl : l.length ≤ 20) (hO : ∀ d ∈ l, dOk d) : ∀ (d i : Nat) (acc : List Int), l.length - i = d → i ≤ l.length → acc.length ≤ i →
  Ev (fun k => spec_l25On.l0 k l h acc (i : Int)) ((onL h (l.drop i)).foldl putI acc) := by
 intro d
 induction d with
 | zero =>
  intro i acc hd hi ha
  refine Ev.step (fun k => by rw [spec_l25On.l0]) ?_
  refine Ev.neg (by omega) (Ev.const ?_)
  rw [List.drop_of_length_le (by omega)]; simp [onL]
 | succ d ih =>
  intro i acc hd hi ha
  have hlt : i < l.length := by omega
  have ho := hO l[i] (List.getElem_mem _)
  unfold dOk at ho
  refine Ev.step (fun k => by rw [spec_l25On.l0]) ?_
  refine Ev.pos (by omega) (Ev.pos (by omega) ?_)
  rw [rdP_lt l i hlt, w64 (x := (i : Int) + 1) (by omega) (by omega), show (i : Int) + 1 = ((i + 1 : Nat) : Int) from by omega, drop_cons' l i hlt, w64 (x := l[i].f2 - 1) (by omega) (by omega)]
  simp only [onL]
  refine Ev.bindc (l1In_f _ _ _) (Ev.cases (fun h1 => ?_) (fun h1 => ?_))
  ·
   rw [if_pos (of_decide_eq_true h1)]
   refine Ev.bindc (b := putI acc l[i].f0) (by unfold spec_l1Put.f; rw [if_pos (by omega)]) ?_
   have := putI_len acc l[i].f0
   exact ih (i + 1) _ (by omega) (by omega) (by omega)
  ·
   rw [if_neg (by simpa using h1)]
   exact ih (i + 1) _ (by omega) (by omega) (by omega)
theorem onEv (h : Int) (l : List S44) (hP : Plan l) : Ev (fun k => spec_l25On.f k l h) (onS h l) := by
 unfold spec_l25On.f
 have := on_l0 h l hP.2 hP.1.1 _ 0 [] rfl (by omega) (by simp)
 rw [List.drop_zero, onS_fold h l hP.1.1 hP.1.2.2] at this
 simpa using this
noncomputable def onDutyT (l : List S44) (h : Int) : List Int × Bool := if planB l = true ∧ 0 ≤ h ∧ h ≤ 239 then (onS h l, true) else ([], false)
theorem onDuty_impl (l : List S44) (h : Int) (hl : l.length ≤ 1099511627776) : Ev (fun k => impl_OnDuty.f k l h) (onDutyT l h) := by
 unfold impl_OnDuty.f onDutyT
 have hbad : ∀ x, x = true → Ev (fun k => impl_OnDuty.j0 k l h x) ([], false) := fun x hx => by
  subst hx
  refine Ev.step (fun k => by rw [impl_OnDuty.j0]) ?_
  exact Ev.pos rfl (Ev.now _)
 refine Ev.bind (isValidPlan l hl) (Ev.cases (fun h1 => ?_) (fun h1 => ?_))
 ·
  refine Ev.bindc (within_f _ _ _) ?_
  by_cases h2 : 0 ≤ h ∧ h ≤ 239
  ·
   rw [decide_eq_true h2, if_pos ⟨h1, h2⟩]
   have hP := planB_true.1 h1
   refine Ev.step (fun k => by rw [impl_OnDuty.j0]) ?_
   refine Ev.neg (by decide) (Ev.bind (onDutyEv h l hP) (Ev.bindc (b := onS h l) ?_ (Ev.now _)))
   have := onL_len h l
   have := hP.2
   unfold slices_Sort_int_int.f
   rw [if_pos (by omega)]; rfl
  ·
   rw [decide_eq_false h2, if_neg (fun h => h2 h.2)]
   exact hbad _ rfl
 ·
  rw [if_neg (fun h => h1 h.1)]
  exact hbad _ rfl
/-! ### hours that are not covered -/
def uncL (l : List S44) (least : Int) : Nat → Int → List Int
 | 0, _ => []
 | n + 1, h => if ((onL h l).length : Int) < least then h :: uncL l least n (h + 1) else uncL l least n (h + 1)
theorem unc_l0 (l : List S44) (hP : Plan l) (b least : Int) (ht : b ≤ 240) : ∀ (d : Nat) (h : Int) (acc : List Int), (b - h).toNat = d → 0 ≤ h → acc.length ≤ h.toNat →
  Ev (fun k => impl_UncoveredHours.l0 k l b least acc h) (acc ++ uncL l least d h, true) := by
 intro d
 induction d with
 | zero =>
  intro h acc hd h0 ha
  refine Ev.step (fun k => by rw [impl_UncoveredHours.l0]) ?_
  refine Ev.neg (by omega) (Ev.const ?_)
  simp [uncL]
 | succ d ih =>
  intro h acc hd h0 ha
  refine Ev.step (fun k => by rw [impl_UncoveredHours.l0]) ?_
  refine Ev.pos (by omega) (Ev.bind (onDutyEv h l hP) ?_)
  rw [w64 (x := h + 1) (by omega) (by omega)]
  simp only [uncL]
  refine Ev.cases (fun h1 => ?_) (fun h1 => ?_)
  ·
   rw [if_pos h1]
   refine Ev.pos (by omega) (Ev.eq (ih (h + 1) _ (by omega) (by omega) (by simp; omega)) (by simp))
  ·
   rw [if_neg h1]
   exact ih (h + 1) _ (by omega) (by omega) (by omega)
theorem uncS_l0 (l : List S44) (hP : Plan l) (b least : Int) (ht : b ≤ 240) : ∀ (d : Nat) (h : Int) (acc : List Int), (b - h).toNat = d → 0 ≤ h → acc.length ≤ h.toNat →
  Ev (fun k => spec_UncoveredHours.l0 k l b least acc h) (acc ++ uncL l least d h, true) := by
 intro d
 induction d with
 | zero =>
  intro h acc hd h0 ha
  refine Ev.step (fun k => by rw [spec_UncoveredHours.l0]) ?_
  refine Ev.neg (by omega) (Ev.const ?_)
  simp [uncL]
 | succ d ih =>
  intro h acc hd h0 ha
  refine Ev.step (fun k => by rw [spec_UncoveredHours.l0]) ?_
  refine Ev.pos (by omega) (Ev.bind (onEv h l hP) ?_)
  rw [w64 (x := h + 1) (by omega) (by omega), onS_len]
  simp only [uncL]
  refine Ev.cases (fun h1 => ?_) (fun h1 => ?_)
  ·
   rw [if_pos h1]
   refine Ev.pos (by omega) (Ev.eq (ih (h + 1) _ (by omega) (by omega) (by simp; omega)) (by simp))
  ·
   rw [if_neg h1]
   exact ih (h + 1) _ (by omega) (by omega) (by omega)
noncomputable def uncT (l : List S44) (a b least : Int) : List Int × Bool := if planB l = true ∧ 0 ≤ a ∧ a ≤ b ∧ b ≤ 240 ∧ 1 ≤ least ∧ least ≤ 8 then (uncL l least (b - a).toNat a, true) else ([], false)
theorem uncL_len (l : List S44) (least : Int) : ∀ (n : Nat) (h : Int), (uncL l least n h).length ≤ n
 | 0, h => by simp [uncL]
 | n + 1, h => by
  have := uncL_len l least n (h + 1)
  simp only [uncL]
  split <;> simp <;> omega
theorem uncT_len (l : List S44) (a b least : Int) : (uncT l a b least).1.length ≤ 240 := by
 unfold uncT
 split
 ·
  have := uncL_len l least (b - a).toNat a
  simp only; omega
 ·
  simp
theorem unc_impl (l : List S44) (a b least : Int) (hl : l.length ≤ 1099511627776) : Ev (fun k => impl_UncoveredHours.f k l a b least) (uncT l a b least) := by
 unfold impl_UncoveredHours.f uncT
 have hbad : ∀ x, x = true → ¬ (planB l = true ∧ 0 ≤ a ∧ a ≤ b ∧ b ≤ 240 ∧ 1 ≤ least ∧ least ≤ 8) → Ev (fun k => impl_UncoveredHours.j0 k l a b least x) (if planB l = true ∧ 0 ≤ a ∧ a ≤ b ∧ b ≤ 240 ∧ 1 ≤ least ∧ least ≤ 8 then (uncL l least (b - a).toNat a, true) else ([], false)) := fun x hx hn => by
  subst hx
  rw [if_neg hn]
  refine Ev.step (fun k => by rw [impl_UncoveredHours.j0]) ?_
  exact Ev.pos rfl (Ev.now _)
 refine Ev.bind (isValidPlan l hl) (Ev.cases (fun h1 => ?_) (fun h1 => hbad _ rfl (fun h => h1 h.1)))
 refine Ev.cases (fun h2 => hbad _ rfl (by omega)) (fun h2 => Ev.cases (fun h3 => hbad _ rfl (by omega)) (fun h3 => Ev.cases (fun h4 => hbad _ rfl (by omega)) (fun h4 => ?_)))
 refine Ev.bindc (within_f _ _ _) ?_
 by_cases h5 : 1 ≤ least ∧ least ≤ 8
 ·
  rw [decide_eq_true h5, if_pos ⟨h1, by omega, by omega, by omega, h5⟩]
  refine Ev.step (fun k => by rw [impl_UncoveredHours.j0]) ?_
  refine Ev.neg (by decide) (Ev.eq (unc_l0 l (planB_true.1 h1) b least (by omega) _ a [] rfl (by omega) (by simp)) (by simp))
 ·
  rw [decide_eq_false h5]
  exact hbad _ rfl (fun h => h5 h.2.2.2.2)
theorem unc_spec (l : List S44) (a b least : Int) (hl : l.length ≤ 1099511627776) : Ev (fun k => spec_UncoveredHours.f k l a b least) (uncT l a b least) := by
 unfold spec_UncoveredHours.f uncT
 simp only [Option.bind_some]
 have hbad : ∀ x, x = true → ¬ (planB l = true ∧ 0 ≤ a ∧ a ≤ b ∧ b ≤ 240 ∧ 1 ≤ least ∧ least ≤ 8) → Ev (fun k => spec_UncoveredHours.j0 k l a b least [] x) (if planB l = true ∧ 0 ≤ a ∧ a ≤ b ∧ b ≤ 240 ∧ 1 ≤ least ∧ least ≤ 8 then (uncL l least (b - a).toNat a, true) else ([], false)) := fun x hx hn => by
  subst hx
  rw [if_neg hn]
  refine Ev.step (fun k => by rw [spec_UncoveredHours.j0]) ?_
  exact Ev.pos rfl (Ev.now _)
 refine Ev.bind (specGood l hl) (Ev.cases (fun h1 => ?_) (fun h1 => hbad _ rfl (fun h => h1 h.1)))
 refine Ev.cases (fun h2 => hbad _ rfl (by omega)) (fun h2 => Ev.cases (fun h3 => hbad _ rfl (by omega)) (fun h3 => Ev.cases (fun h4 => hbad _ rfl (by omega)) (fun h4 => ?_)))
 refine Ev.bindc (b := decide (1 ≤ least ∧ least ≤ 8)) (by unfold spec_l25Person.f; rw [l1In_f]; rfl) ?_
 by_cases h5 : 1 ≤ least ∧ least ≤ 8
 ·
  rw [decide_eq_true h5, if_pos ⟨h1, by omega, by omega, by omega, h5⟩]
  refine Ev.step (fun k => by rw [spec_UncoveredHours.j0]) ?_
  refine Ev.neg (by decide) (Ev.eq (uncS_l0 l (planB_true.1 h1) b least (by omega) _ a [] rfl (by omega) (by simp)) (by simp))
 ·
  rw [decide_eq_false h5]
  exact hbad _ rfl (fun h => h5 h.2.2.2.2)

/-! ### handovers -/
open Go.Lib in
theorem compact_mem (l : List Int) (x : Int) : x ∈ compact l ↔ x ∈ l := by
 unfold compact compactUpTo
 rw [List.mem_map]
 constructor
 ·
  rintro ⟨j, hj, rfl⟩
  have hj' := List.mem_range.1 (List.mem_filter.1 hj).1
  simp [getElem!_pos, hj']
 ·
  intro hx
  have : ∃ j, j < l.length ∧ l.toArray[j]! = x := by
   obtain ⟨j, hj, rfl⟩ := List.getElem_of_mem hx
   exact ⟨j, hj, by simp [getElem!_pos, hj]⟩
  obtain ⟨j, hj, he⟩ := this
  induction j using Nat.strongRecOn with
  | _ j ih =>
   by_cases hk : keeps l.toArray j = true
   ·
    exact ⟨j, List.mem_filter.2 ⟨List.mem_range.2 hj, hk⟩, he⟩
   ·
    have h1 : ¬ (j = 0 ∨ l.toArray[j]! ≠ l.toArray[j - 1]!) := by unfold keeps at hk; simpa using hk
    have h2 : l.toArray[j]! = l.toArray[j - 1]! := Classical.byContradiction fun h => h1 (.inr h)
    exact ih (j - 1) (by omega) (by omega) (by rw [← h2]; exact he)
open Go.Lib in
theorem compact_sorted (l : List Int) (h : l.Pairwise (· ≤ ·)) : (compact l).Pairwise (· < ·) := by
 unfold compact compactUpTo
 rw [List.pairwise_map]
 have h0 : ((List.range l.length).filter (keeps l.toArray)).Pairwise (· < ·) := List.Pairwise.filter _ List.pairwise_lt_range
 refine h0.imp_of_mem ?_
 intro i j hi hj hij
 have hj1 := List.mem_range.1 (List.mem_filter.1 hj).1
 have hj2 := (List.mem_filter.1 hj).2
 have h1 : j = 0 ∨ l.toArray[j]! ≠ l.toArray[j - 1]! := by unfold keeps at hj2; simpa using hj2
 have h2 := h1.resolve_left (by omega)
 have le : ∀ a b, a ≤ b → b < l.length → l.toArray[a]! ≤ l.toArray[b]! := fun a b hab hb => by
  rcases Nat.lt_or_ge a b with hlt | hge
  ·
   have := List.pairwise_iff_getElem.1 h a b (by omega) hb hlt
   simpa [getElem!_pos, hb, show a < l.length by omega] using this
  ·
   obtain rfl : a = b := by omega
   exact Int.le_refl _
 have a := le i (j - 1) (by omega) (by omega)
 have b := le (j - 1) j (by omega) hj1
 omega
/-- The ends of duties at which another begins, as they come. -/
def hoL (l : List S44) : List S44 → List Int
 | [] => []
 | d :: ds => if (l.any fun o => o.f1 == d.f2) = true then d.f2 :: hoL l ds else hoL l ds
theorem hoL_mem (l : List S44) : ∀ (m : List S44) (x : Int), x ∈ hoL l m ↔ ∃ d ∈ m, (l.any fun o => o.f1 == d.f2) = true ∧ d.f2 = x
 | [], x => by simp [hoL]
 | d :: ds, x => by
  simp only [hoL]
  split
  ·
   rw [List.mem_cons, hoL_mem l ds x]
   constructor
   ·
    rintro (rfl | ⟨d', h1, h2⟩)
    ·
     exact ⟨d, by simp, by assumption, rfl⟩
    ·
     exact ⟨d', by simp [h1], h2⟩
   ·
    rintro ⟨d', h1, h2, h3⟩
    rcases List.mem_cons.1 h1 with rfl | h1
    ·
     exact .inl h3.symm
    ·
     exact .inr ⟨d', h1, h2, h3⟩
  ·
   rw [hoL_mem l ds x]
   constructor
   ·
    rintro ⟨d', h1, h2⟩; exact ⟨d', by simp [h1], h2⟩
   ·
    rintro ⟨d', h1, h2, h3⟩
    rcases List.mem_cons.1 h1 with rfl | h1
    ·
     contradiction
    ·
     exact ⟨d', h1, h2, h3⟩
theorem hoL_len (l : List S44) : ∀ (m : List S44), (hoL l m).length ≤ m.length
 | [] => by simp [hoL]
 | d :: ds => by
  have := hoL_len l ds
  simp only [hoL]
  split <;> simp <;> omega
def hoS (l : List S44) : List Int := Lib.compact ((hoL l l).mergeSort fun x y => decide (x ≤ y))
theorem hoS_sorted (l : List S44) : (hoS l).Pairwise (· < ·) := compact_sorted _ (mergeI_le _)
theorem hoS_mem (l : List S44) (x : Int) : x ∈ hoS l ↔ x ∈ hoL l l := by
 unfold hoS
 rw [compact_mem, (List.mergeSort_perm _ _).mem_iff]
theorem hoS_len (l : List S44) : (hoS l).length ≤ l.length := by
 unfold hoS
 have := compact_len ((hoL l l).mergeSort fun x y => decide (x ≤ y))
 rw [List.length_mergeSort] at this
 have := hoL_len l l
 omega
noncomputable def hoT (l : List S44) : List Int × Bool := if planB l = true then (hoS l, true) else ([], false)
theorem hoT_len (l : List S44) : (hoT l).1.length ≤ 20 := by
 unfold hoT
 split
 ·
  rename_i h
  have := (planB_true.1 h).2
  have := hoS_len l
  simp only; omega
 ·
  simp
theorem ho_l0 (l : List S44) (hl : l.length ≤ 20) : ∀ (d i : Nat) (acc : List Int), l.length - i = d → i ≤ l.length → acc.length ≤ i →
  Ev (fun k => impl_HandoverHours.l0 k l acc l (l.length : Int) (i : Int)) (Lib.compact ((acc ++ hoL l (l.drop i)).mergeSort fun x y => decide (x ≤ y)), true) := by
 intro d
 induction d with
 | zero =>
  intro i acc hd hi ha
  refine Ev.step (fun k => by rw [impl_HandoverHours.l0]) ?_
  refine Ev.neg (by omega) ?_
  rw [List.drop_of_length_le (by omega)]
  simp only [hoL, List.append_nil]
  refine Ev.bindc (b := acc.mergeSort fun x y => decide (x ≤ y)) (by unfold slices_Sort_int_int.f; rw [if_pos (by omega)]) ?_
  exact Ev.bindc (b := Lib.compact (acc.mergeSort fun x y => decide (x ≤ y))) rfl (Ev.now _)
 | succ d ih =>
  intro i acc hd hi ha
  have hlt : i < l.length := by omega
  refine Ev.step (fun k => by rw [impl_HandoverHours.l0]) ?_
  refine Ev.pos (by omega) (Ev.pos (by omega) (Ev.pos (by omega) ?_))
  rw [rdP_lt l i hlt, w64 (x := (i : Int) + 1) (by omega) (by omega), show (i : Int) + 1 = ((i + 1 : Nat) : Int) from by omega, drop_cons' l i hlt]
  simp only [hoL]
  refine Ev.bindc (b := l.any fun o => o.f1 == l[i].f2) rfl (Ev.cases (fun h1 => ?_) (fun h1 => ?_))
  ·
   rw [if_pos h1]
   refine Ev.pos (by omega) (Ev.eq (ih (i + 1) _ (by omega) (by omega) (by simp; omega)) (by simp))
  ·
   rw [if_neg h1]
   exact ih (i + 1) _ (by omega) (by omega) (by omega)
theorem ho_impl (l : List S44) (hl : l.length ≤ 1099511627776) : Ev (fun k => impl_HandoverHours.f k l) (hoT l) := by
 unfold impl_HandoverHours.f hoT
 refine Ev.bind (isValidPlan l hl) (Ev.cases (fun h1 => ?_) (fun h1 => by rw [if_neg h1]; exact Ev.now _))
 rw [if_pos h1]
 have h := ho_l0 l (planB_true.1 h1).2 _ 0 [] rfl (by omega) (by simp)
 simpa [hoS] using h
/-- What the reference's inner loop adds. -/
def inL (v : Int) : List S44 → List Int → List Int
 | [], out => out
 | o :: os, out => inL v os (if v = o.f1 then putI out v else out)
def outL (l : List S44) : List S44 → List Int → List Int
 | [], out => out
 | d :: ds, out => outL l ds (inL d.f2 l out)
theorem inL_mem (v : Int) : ∀ (os : List S44) (out : List Int) (x : Int), x ∈ inL v os out ↔ x ∈ out ∨ ((os.any fun o => o.f1 == v) = true ∧ v = x)
 | [], out, x => by simp [inL]
 | o :: os, out, x => by
  simp only [inL]
  rw [inL_mem v os]
  by_cases e : v = o.f1
  ·
   rw [if_pos e, putI_mem]
   have e2 : (o.f1 == v) = true := by simp [e]
   simp only [List.any_cons, e2, Bool.true_or, true_and]
   constructor
   ·
    rintro ((h | h) | h)
    ·
     exact .inr h.symm
    ·
     exact .inl h
    ·
     exact .inr h.2
   ·
    rintro (h | h)
    ·
     exact .inl (.inr h)
    ·
     exact .inl (.inl h.symm)
  ·
   rw [if_neg e]
   have e2 : (o.f1 == v) = false := by simp; omega
   simp only [List.any_cons, e2, Bool.false_or]
theorem inL_sorted (v : Int) : ∀ (os : List S44) (out : List Int), out.Pairwise (· < ·) → (inL v os out).Pairwise (· < ·)
 | [], out, h => h
 | o :: os, out, h => by
  simp only [inL]
  refine inL_sorted v os _ ?_
  split
  ·
   exact putI_sorted _ _ h
  ·
   exact h
theorem inL_len (v : Int) : ∀ (os : List S44) (out : List Int), (inL v os out).length ≤ out.length + os.length
 | [], out => by simp [inL]
 | o :: os, out => by
  simp only [inL]
  have h1 := inL_len v os (if v = o.f1 then putI out v else out)
  have h2 : (if v = o.f1 then putI out v else out).length ≤ out.length + 1 := by
   split
   ·
    exact putI_len _ _
   ·
    omega
  simp; omega
theorem outL_mem (l : List S44) : ∀ (ds : List S44) (out : List Int) (x : Int), x ∈ outL l ds out ↔ x ∈ out ∨ x ∈ hoL l ds
 | [], out, x => by simp [outL, hoL]
 | d :: ds, out, x => by
  simp only [outL]
  rw [outL_mem l ds, inL_mem]
  simp only [hoL]
  split
  ·
   rename_i h
   rw [h, List.mem_cons]
   constructor
   ·
    rintro ((h | h) | h)
    ·
     exact .inl h
    ·
     exact .inr (.inl h.2.symm)
    ·
     exact .inr (.inr h)
   ·
    rintro (h | h | h)
    ·
     exact .inl (.inl h)
    ·
     exact .inl (.inr ⟨rfl, h.symm⟩)
    ·
     exact .inr h
  ·
   rename_i h
   constructor
   ·
    rintro ((h2 | h2) | h2)
    ·
     exact .inl h2
    ·
     exact absurd h2.1 h
    ·
     exact .inr h2
   ·
    rintro (h2 | h2)
    ·
     exact .inl (.inl h2)
    ·
     exact .inr h2
theorem outL_sorted (l : List S44) : ∀ (ds : List S44) (out : List Int), out.Pairwise (· < ·) → (outL l ds out).Pairwise (· < ·)
 | [], out, h => h
 | d :: ds, out, h => outL_sorted l ds _ (inL_sorted _ _ _ h)
theorem hoS_out (l : List S44) : outL l l [] = hoS l :=
 int_ext _ _ (outL_sorted l l [] (by simp)) (hoS_sorted l) (fun x => by rw [outL_mem, hoS_mem]; simp)
theorem hoS_l1 (l : List S44) (hl : l.length ≤ 20) (i : Nat) (hi : i < l.length) (r : List Int × Bool) (acc : List Int) (ha : acc.length ≤ 20 * i) (hK : Ev (fun k => spec_HandoverHours.l0 k l (inL l[i].f2 l acc) ((i + 1 : Nat) : Int)) r) :
  ∀ (d j : Nat) (out : List Int), l.length - j = d → j ≤ l.length → out.length ≤ 20 * i + j → inL l[i].f2 (l.drop j) out = inL l[i].f2 l acc → Ev (fun k => spec_HandoverHours.l1 k l out (i : Int) (j : Int)) r := by
 intro d
 induction d with
 | zero =>
  intro j out hd hj ho he
  refine Ev.step (fun k => by rw [spec_HandoverHours.l1]) ?_
  refine Ev.neg (by omega) ?_
  rw [w64 (by omega) (by omega), show (i : Int) + 1 = ((i + 1 : Nat) : Int) from by omega]
  rw [List.drop_of_length_le (by omega)] at he
  simp only [inL] at he
  rw [he]; exact hK
 | succ d ih =>
  intro j out hd hj ho he
  have hlt : j < l.length := by omega
  refine Ev.step (fun k => by rw [spec_HandoverHours.l1]) ?_
  refine Ev.pos (by omega) (Ev.pos (by omega) (Ev.pos (by omega) (Ev.pos (by omega) ?_)))
  rw [rdP_lt l i hi, rdP_lt l j hlt, w64 (x := (j : Int) + 1) (by omega) (by omega), show (j : Int) + 1 = ((j + 1 : Nat) : Int) from by omega]
  rw [drop_cons' l j hlt] at he
  simp only [inL] at he
  refine Ev.cases (fun h1 => ?_) (fun h1 => ?_)
  ·
   rw [if_pos h1] at he
   refine Ev.bindc (b := putI out l[i].f2) (by unfold spec_l1Put.f; rw [if_pos (by omega)]) ?_
   have := putI_len out l[i].f2
   exact ih (j + 1) _ (by omega) (by omega) (by omega) he
  ·
   rw [if_neg h1] at he
   exact ih (j + 1) _ (by omega) (by omega) (by omega) he
theorem hoS_l0 (l : List S44) (hl : l.length ≤ 20) : ∀ (d i : Nat) (acc : List Int), l.length - i = d → i ≤ l.length → acc.length ≤ 20 * i →
  Ev (fun k => spec_HandoverHours.l0 k l acc (i : Int)) (outL l (l.drop i) acc, true) := by
 intro d
 induction d with
 | zero =>
  intro i acc hd hi ha
  refine Ev.step (fun k => by rw [spec_HandoverHours.l0]) ?_
  refine Ev.neg (by omega) (Ev.const ?_)
  rw [List.drop_of_length_le (by omega)]; rfl
 | succ d ih =>
  intro i acc hd hi ha
  have hlt : i < l.length := by omega
  refine Ev.step (fun k => by rw [spec_HandoverHours.l0]) ?_
  refine Ev.pos (by omega) ?_
  rw [drop_cons' l i hlt]
  simp only [outL]
  have := inL_len l[i].f2 l acc
  exact hoS_l1 l hl i hlt _ acc ha (ih (i + 1) _ (by omega) (by omega) (by omega)) _ 0 acc rfl (by omega) (by omega) (by simp)
theorem ho_spec (l : List S44) (hl : l.length ≤ 1099511627776) : Ev (fun k => spec_HandoverHours.f k l) (hoT l) := by
 unfold spec_HandoverHours.f hoT
 simp only [Option.bind_some]
 refine Ev.bind (specGood l hl) (Ev.cases (fun h1 => ?_) (fun h1 => by rw [if_neg h1]; exact Ev.now _))
 rw [if_pos h1]
 have h := hoS_l0 l (planB_true.1 h1).2 _ 0 [] rfl (by omega) (by simp)
 rw [List.drop_zero, hoS_out] at h
 simpa using h
end Go.Proofs.Ythhjhbndnipdgaa.Pure

/- A duty more. -/
namespace Go.Proofs.Ythhjhbndnipdgaa.Pure
open Go.RowKit Go.Proofs.Ythhjhbndnipdgaa.P Go.Proofs.YthhjhbndnipdgaaW.PrintWords Go.Proofs.YthhjhbndnipdgaaW.PrintLast
set_option linter.unusedVariables false

/-! ### a duty more -/
end Go.Proofs.Ythhjhbndnipdgaa.Pure

/- The next free hour. -/
namespace Go.Proofs.Ythhjhbndnipdgaa.Pure
open Go.RowKit Go.Proofs.Ythhjhbndnipdgaa.P Go.Proofs.YthhjhbndnipdgaaW.PrintWords Go.Proofs.YthhjhbndnipdgaaW.PrintLast
set_option linter.unusedVariables false

/-! ### the next free hour -/
end Go.Proofs.Ythhjhbndnipdgaa.Pure

/- Persons exchanged. -/
namespace Go.Proofs.Ythhjhbndnipdgaa.Pure
open Go.RowKit Go.Proofs.Ythhjhbndnipdgaa.P Go.Proofs.YthhjhbndnipdgaaW.PrintWords Go.Proofs.YthhjhbndnipdgaaW.PrintLast
set_option linter.unusedVariables false

/-! ### persons exchanged -/
def swapD (a b : Int) (d : S44) : S44 := if d.f0 = a then ⟨b, d.f1, d.f2⟩ else if d.f0 = b then ⟨a, d.f1, d.f2⟩ else d
theorem swap_key (a b : Int) (x y : S44) (h : dLt x y) : dKey (swapD a b x) (swapD a b y) := by
 have e1 : (swapD a b x).f1 = x.f1 := by unfold swapD; split <;> (try split) <;> rfl
 have e2 : (swapD a b y).f1 = y.f1 := by unfold swapD; split <;> (try split) <;> rfl
 unfold dKey dLt at *
 rcases h with h | ⟨h1, h2⟩
 ·
  left; left; rw [e1, e2]; exact h
 ·
  have e3 : (swapD a b x).f0 ≠ (swapD a b y).f0 := by
   unfold swapD
   repeat' split
   all_goals ((try simp only); omega)
  omega
theorem fold_perm : ∀ (xs acc : List S44), (xs.foldl putD acc).Perm (xs ++ acc)
 | [], acc => by simp
 | x :: xs, acc => by
  have h1 := fold_perm xs (putD acc x)
  have h2 := (putD_perm acc x).append_left xs
  have h3 := List.perm_middle (a := x) (l₁ := xs) (l₂ := acc)
  exact h1.trans (h2.trans h3)
theorem fold_sorted : ∀ (xs acc : List S44), acc.Pairwise wLe → (xs.foldl putD acc).Pairwise wLe
 | [], acc, h => h
 | x :: xs, acc, h => fold_sorted xs _ (putD_sorted acc x h)
theorem fold_eq (l : List S44) (a b : Int) (h : l.Pairwise dLt) : (l.map (swapD a b)).foldl putD [] = sortD (l.map (swapD a b)) := by
 have hp := fold_perm (l.map (swapD a b)) []
 rw [List.append_nil] at hp
 refine uniqD (hp.trans (sortD_perm _).symm) (fold_sorted _ [] (by simp)) (sortD_sorted _) ?_
 refine (List.Perm.pairwise_iff (R := dKey) (fun h => dKey_symm h) hp).2 ?_
 rw [List.pairwise_map]
 exact h.imp (swap_key a b _ _)
noncomputable def exT (l : List S44) (a b : Int) : List S44 × Bool := if planB l = true ∧ (1 ≤ a ∧ a ≤ 8) ∧ (1 ≤ b ∧ b ≤ 8) then (sortD (l.map (swapD a b)), true) else ([], false)
theorem exT_len (l : List S44) (a b : Int) : (exT l a b).1.length ≤ 20 := by
 unfold exT
 split
 ·
  rename_i h
  have := (planB_true.1 h.1).2
  simp only [pdq_size, List.length_map]; omega
 ·
  simp
theorem ex_l0 (l : List S44) (a b : Int) (hl : l.length ≤ 20) : ∀ (d i : Nat), l.length - i = d → i ≤ l.length →
  Ev (fun k => impl_ExchangePersons.l0 k a b ((l.take i).map (swapD a b) ++ l.drop i) (l.length : Int) (i : Int)) (sortD (l.map (swapD a b)), true) := by
 intro d
 induction d with
 | zero =>
  intro i hd hi
  obtain rfl : i = l.length := by omega
  refine Ev.step (fun k => by rw [impl_ExchangePersons.l0]) ?_
  refine Ev.neg (by omega) ?_
  rw [List.take_length, List.drop_length, List.append_nil]
  exact Ev.bindc (b := sortD (l.map (swapD a b))) (by unfold slices_SortFunc_impl_Duty.f; rw [if_pos (by simp; omega)]) (Ev.now _)
 | succ d ih =>
  intro i hd hi
  have hlt : i < l.length := by omega
  refine Ev.step (fun k => by rw [impl_ExchangePersons.l0]) ?_
  refine Ev.pos (by omega) (Ev.pos (by omega) (Ev.pos (by simp; omega) ?_))
  rw [w64 (x := (i : Int) + 1) (by omega) (by omega), show (i : Int) + 1 = ((i + 1 : Nat) : Int) from by omega, drop_cons' l i hlt, Int.toNat_natCast]
  have hml : ((l.take i).map (swapD a b)).length = i := by simp; omega
  have hrd : rd_T44 ((l.take i).map (swapD a b) ++ l[i] :: l.drop (i + 1)) (i : Int) = l[i] := by
   rw [rdP_lt _ _ (by simp; omega), List.getElem_append_right (by omega)]
   simp only [hml, Nat.sub_self, List.getElem_cons_zero]
  rw [hrd]
  have hset : ∀ y : S44, ((l.take i).map (swapD a b) ++ l[i] :: l.drop (i + 1)).set i y = (l.take i).map (swapD a b) ++ y :: l.drop (i + 1) := fun y => by
   rw [List.set_append_right _ _ (by omega), hml, Nat.sub_self]; rfl
  have h1 := ih (i + 1) (by omega) (by omega)
  rw [take_succ' _ _ hlt, List.map_append, List.append_assoc] at h1
  refine Ev.cases (fun h2 => ?_) (fun h2 => Ev.cases (fun h3 => ?_) (fun h3 => ?_))
  ·
   rw [hset]
   have : [l[i]].map (swapD a b) = [⟨b, l[i].f1, l[i].f2⟩] := by simp [swapD, h2]
   rw [this] at h1; exact h1
  ·
   rw [hset]
   have : [l[i]].map (swapD a b) = [⟨a, l[i].f1, l[i].f2⟩] := by simp only [List.map_cons, List.map_nil, swapD]; rw [if_neg h2, if_pos h3]
   rw [this] at h1; exact h1
  ·
   have : [l[i]].map (swapD a b) = [l[i]] := by simp only [List.map_cons, List.map_nil, swapD]; rw [if_neg h2, if_neg h3]
   rw [this] at h1; exact h1
theorem exS_l0 (l : List S44) (a b : Int) (hl : l.length ≤ 20) : ∀ (d i : Nat) (acc : List S44), l.length - i = d → i ≤ l.length → acc.length ≤ i →
  Ev (fun k => spec_ExchangePersons.l0 k l a b acc (i : Int)) (((l.drop i).map (swapD a b)).foldl putD acc, true) := by
 intro d
 induction d with
 | zero =>
  intro i acc hd hi ha
  refine Ev.step (fun k => by rw [spec_ExchangePersons.l0]) ?_
  refine Ev.neg (by omega) (Ev.const ?_)
  rw [List.drop_of_length_le (by omega)]; rfl
 | succ d ih =>
  intro i acc hd hi ha
  have hlt : i < l.length := by omega
  refine Ev.step (fun k => by rw [spec_ExchangePersons.l0]) ?_
  refine Ev.pos (by omega) (Ev.pos (by omega) ?_)
  rw [rdP_lt l i hlt, w64 (x := (i : Int) + 1) (by omega) (by omega), show (i : Int) + 1 = ((i + 1 : Nat) : Int) from by omega, drop_cons' l i hlt, List.map_cons, List.foldl_cons]
  refine Ev.cases (fun h2 => ?_) (fun h2 => Ev.cases (fun h3 => ?_) (fun h3 => ?_))
  ·
   rw [show swapD a b l[i] = ⟨b, l[i].f1, l[i].f2⟩ by simp [swapD, h2]]
   exact Ev.bind (putEv acc ⟨b, l[i].f1, l[i].f2⟩ (by omega)) (ih (i + 1) _ (by omega) (by omega) (by rw [putD_len]; omega))
  ·
   rw [show swapD a b l[i] = ⟨a, l[i].f1, l[i].f2⟩ by simp only [swapD]; rw [if_neg h2, if_pos h3]]
   exact Ev.bind (putEv acc ⟨a, l[i].f1, l[i].f2⟩ (by omega)) (ih (i + 1) _ (by omega) (by omega) (by rw [putD_len]; omega))
  ·
   rw [show swapD a b l[i] = l[i] by simp only [swapD]; rw [if_neg h2, if_neg h3]]
   exact Ev.bind (putEv acc l[i] (by omega)) (ih (i + 1) _ (by omega) (by omega) (by rw [putD_len]; omega))
theorem ex_impl (l : List S44) (a b : Int) (hl : l.length ≤ 1099511627775) : Ev (fun k => impl_ExchangePersons.f k l a b) (exT l a b) := by
 unfold impl_ExchangePersons.f exT
 have hbad : ∀ x, x = true → ¬ (planB l = true ∧ (1 ≤ a ∧ a ≤ 8) ∧ (1 ≤ b ∧ b ≤ 8)) → Ev (fun k => impl_ExchangePersons.j0 k l a b x) (if planB l = true ∧ (1 ≤ a ∧ a ≤ 8) ∧ (1 ≤ b ∧ b ≤ 8) then (sortD (l.map (swapD a b)), true) else ([], false)) := fun x hx hn => by
  subst hx
  rw [if_neg hn]
  refine Ev.step (fun k => by rw [impl_ExchangePersons.j0]) ?_
  exact Ev.pos rfl (Ev.now _)
 refine Ev.bind (isValidPlan l (by omega)) (Ev.cases (fun h1 => ?_) (fun h1 => hbad _ rfl (fun h => h1 h.1)))
 refine Ev.bindc (within_f _ _ _) (Ev.cases (fun h2 => ?_) (fun h2 => hbad _ rfl (fun h => h2 (decide_eq_true h.2.1))))
 refine Ev.bindc (within_f _ _ _) ?_
 by_cases h4 : 1 ≤ b ∧ b ≤ 8
 ·
  rw [decide_eq_true h4, if_pos ⟨h1, of_decide_eq_true h2, h4⟩]
  have hP := planB_true.1 h1
  refine Ev.step (fun k => by rw [impl_ExchangePersons.j0]) ?_
  refine Ev.neg (by decide) (Ev.bindc (b := l) (by unfold slices_Clone_impl_Duty.f; rw [if_pos (by omega)]) ?_)
  have h := ex_l0 l a b hP.2 _ 0 rfl (by omega)
  simpa using h
 ·
  rw [decide_eq_false h4]
  exact hbad _ rfl (fun h => h4 h.2.2)
theorem ex_spec (l : List S44) (a b : Int) (hl : l.length ≤ 1099511627775) : Ev (fun k => spec_ExchangePersons.f k l a b) (exT l a b) := by
 unfold spec_ExchangePersons.f exT
 have hbad : ∀ x, x = true → ¬ (planB l = true ∧ (1 ≤ a ∧ a ≤ 8) ∧ (1 ≤ b ∧ b ≤ 8)) → Ev (fun k => spec_ExchangePersons.j0 k l a b x) (if planB l = true ∧ (1 ≤ a ∧ a ≤ 8) ∧ (1 ≤ b ∧ b ≤ 8) then (sortD (l.map (swapD a b)), true) else ([], false)) := fun x hx hn => by
  subst hx
  rw [if_neg hn]
  refine Ev.step (fun k => by rw [spec_ExchangePersons.j0]) ?_
  exact Ev.pos rfl (Ev.now _)
 refine Ev.bind (specGood l (by omega)) (Ev.cases (fun h1 => ?_) (fun h1 => hbad _ rfl (fun h => h1 h.1)))
 refine Ev.bindc (b := decide (1 ≤ a ∧ a ≤ 8)) (by unfold spec_l25Person.f; rw [l1In_f]; rfl) (Ev.cases (fun h2 => ?_) (fun h2 => hbad _ rfl (fun h => h2 (decide_eq_true h.2.1))))
 refine Ev.bindc (b := decide (1 ≤ b ∧ b ≤ 8)) (by unfold spec_l25Person.f; rw [l1In_f]; rfl) ?_
 by_cases h4 : 1 ≤ b ∧ b ≤ 8
 ·
  rw [decide_eq_true h4, if_pos ⟨h1, of_decide_eq_true h2, h4⟩]
  have hP := planB_true.1 h1
  refine Ev.step (fun k => by rw [spec_ExchangePersons.j0]) ?_
  refine Ev.neg (by decide) ?_
  have h := exS_l0 l a b hP.2 _ 0 [] rfl (by omega) (by simp)
  rw [List.drop_zero, fold_eq l a b hP.1.2.1] at h
  simpa using h
 ·
  rw [decide_eq_false h4]
  exact hbad _ rfl (fun h => h4 h.2.2)
end Go.Proofs.Ythhjhbndnipdgaa.Pure

/- What a duty more and exchanged persons leave as they were. -/
namespace Go.Proofs.Ythhjhbndnipdgaa.Pure
open Go.RowKit Go.Proofs.Ythhjhbndnipdgaa.P Go.Proofs.YthhjhbndnipdgaaW.PrintWords Go.Proofs.YthhjhbndnipdgaaW.PrintLast
set_option linter.unusedVariables false

theorem sumH_perm (p : Int) {l m : List S44} (h : l.Perm m) : sumH p l = sumH p m := by
 induction h with
 | nil => rfl
 | cons x _ ih => simp only [sumH, ih]
 | swap x y l => simp only [sumH]; omega
 | trans _ _ ih1 ih2 => exact ih1.trans ih2
theorem swap_swap (a b : Int) (d : S44) : swapD a b (swapD a b d) = d := by
 obtain ⟨x, y, z⟩ := d
 by_cases h1 : x = a
 ·
  subst h1
  by_cases h2 : b = x
  ·
   subst h2; simp [swapD]
  ·
   simp [swapD, h2]
 ·
  by_cases h2 : x = b
  ·
   subst h2; simp [swapD, h1]
  ·
   simp [swapD, h1, h2]
theorem swap_f1 (a b : Int) (d : S44) : (swapD a b d).f1 = d.f1 := by unfold swapD; split <;> (try split) <;> rfl
theorem swap_f2 (a b : Int) (d : S44) : (swapD a b d).f2 = d.f2 := by unfold swapD; split <;> (try split) <;> rfl
theorem swap_f0 (a b : Int) (d : S44) : (swapD a b d).f0 = if d.f0 = a then b else if d.f0 = b then a else d.f0 := by unfold swapD; split <;> (try split) <;> rfl
theorem sumH_swap (a b : Int) : ∀ (l : List S44), sumH b (l.map (swapD a b)) = sumH a l
 | [] => rfl
 | d :: ds => by
  simp only [List.map_cons, sumH, sumH_swap a b ds, swap_f0, swap_f1, swap_f2]
  by_cases h1 : d.f0 = a
  ·
   rw [if_pos h1, if_pos rfl, if_pos h1]
  ·
   rw [if_neg h1]
   by_cases h2 : d.f0 = b
   ·
    rw [if_pos h2, if_neg (by omega), if_neg h1]
   ·
    rw [if_neg h2, if_neg h2, if_neg h1]
theorem sort_map_perm (l : List S44) (a b : Int) : (sortD (l.map (swapD a b))).Perm (l.map (swapD a b)) := sortD_perm _
theorem map_key (l : List S44) (a b : Int) (h : l.Pairwise dLt) : (l.map (swapD a b)).Pairwise dKey := by
 rw [List.pairwise_map]
 exact h.imp (swap_key a b _ _)
def dApart (x y : S44) : Prop := x.f0 = y.f0 → x.f2 + 11 ≤ y.f1 ∨ y.f2 + 11 ≤ x.f1
theorem dApart_symm {x y : S44} (h : dApart x y) : dApart y x := fun e => (h e.symm).symm
theorem plan_swap {l : List S44} (hP : Plan l) (a b : Int) (ha : 1 ≤ a ∧ a ≤ 8) (hb : 1 ≤ b ∧ b ≤ 8) : Plan (sortD (l.map (swapD a b))) := by
 obtain ⟨⟨hO, hL, hR⟩, hn⟩ := hP
 have hp := sort_map_perm l a b
 have hO' : ∀ d ∈ sortD (l.map (swapD a b)), dOk d := fun d hd => by
  obtain ⟨x, hx, rfl⟩ := List.mem_map.1 (hp.mem_iff.1 hd)
  have := hO x hx
  unfold dOk at this ⊢
  rw [swap_f0, swap_f1, swap_f2]
  split
  ·
   omega
  ·
   split <;> omega
 have hK := (List.Perm.pairwise_iff (R := dKey) (fun h => dKey_symm h) hp).2 (map_key l a b hL)
 have hL' := strict_of (sortD_sorted (l.map (swapD a b))) hK
 have hA : (l.map (swapD a b)).Pairwise dApart := by
  rw [List.pairwise_map]
  refine hR.imp fun {x y} h he => ?_
  rw [swap_f1, swap_f1, swap_f2, swap_f2]
  left
  refine h ?_
  rw [swap_f0, swap_f0] at he
  split at he
  ·
   split at he
   ·
    omega
   ·
    split at he <;> omega
  ·
   split at he
   ·
    split at he
    ·
     omega
    ·
     split at he <;> omega
   ·
    split at he
    ·
     omega
    ·
     split at he <;> omega
 have hA' := (List.Perm.pairwise_iff (R := dApart) (fun h => dApart_symm h) hp).2 hA
 refine ⟨⟨hO', hL', ?_⟩, by rw [hp.length_eq]; simpa using hn⟩
 rw [List.pairwise_iff_getElem] at hA' hL' ⊢
 intro i j hi hj hij he
 have h1 := hA' i j hi hj hij he
 have h2 := hL' i j hi hj hij
 have h3 := hO' _ (List.getElem_mem hi)
 have h4 := hO' _ (List.getElem_mem hj)
 unfold dLt at h2
 unfold dOk at h3 h4
 omega
theorem swap_back {l : List S44} (h : l.Pairwise dLt) (a b : Int) : sortD ((sortD (l.map (swapD a b))).map (swapD a b)) = l := by
 have hp : (sortD ((sortD (l.map (swapD a b))).map (swapD a b))).Perm l := by
  refine (sortD_perm _).trans (((sort_map_perm l a b).map (swapD a b)).trans ?_)
  rw [List.map_map]
  have : (swapD a b ∘ swapD a b) = id := funext fun d => swap_swap a b d
  rw [this, List.map_id]
 exact (uniqD hp.symm (h.imp wLe_of_dLt) (sortD_sorted _) (h.imp Or.inl)).symm
theorem ho_swap (l : List S44) (a b : Int) : hoS (sortD (l.map (swapD a b))) = hoS l := by
 have hm : ∀ d, d ∈ sortD (l.map (swapD a b)) ↔ ∃ x ∈ l, swapD a b x = d := fun d => by rw [(sort_map_perm l a b).mem_iff, List.mem_map]
 have hany : ∀ t : Int, ((sortD (l.map (swapD a b))).any fun o => o.f1 == t) = true ↔ (l.any fun o => o.f1 == t) = true := fun t => by
  rw [List.any_eq_true, List.any_eq_true]
  constructor
  ·
   rintro ⟨o, h1, h2⟩
   obtain ⟨x, hx, rfl⟩ := (hm o).1 h1
   exact ⟨x, hx, by rwa [swap_f1] at h2⟩
  ·
   rintro ⟨x, hx, h2⟩
   exact ⟨_, (hm _).2 ⟨x, hx, rfl⟩, by rwa [swap_f1]⟩
 refine int_ext _ _ (hoS_sorted _) (hoS_sorted _) fun t => ?_
 rw [hoS_mem, hoS_mem, hoL_mem, hoL_mem]
 constructor
 ·
  rintro ⟨d, h1, h2, h3⟩
  obtain ⟨x, hx, rfl⟩ := (hm d).1 h1
  rw [swap_f2] at h2 h3
  exact ⟨x, hx, (hany _).1 h2, h3⟩
 ·
  rintro ⟨x, hx, h2, h3⟩
  exact ⟨_, (hm _).2 ⟨x, hx, rfl⟩, by rw [swap_f2]; exact (hany _).2 h2, by rw [swap_f2]; exact h3⟩
theorem uncL_mem (l : List S44) (least : Int) : ∀ (n : Nat) (h x : Int), x ∈ uncL l least n h ↔ (h ≤ x ∧ x < h + n) ∧ ((onL x l).length : Int) < least
 | 0, h, x => by simp only [uncL, List.not_mem_nil, false_iff]; omega
 | n + 1, h, x => by
  simp only [uncL]
  have ih := uncL_mem l least n (h + 1) x
  by_cases hx : x = h
  ·
   subst hx
   split
   ·
    rename_i hc
    exact ⟨fun _ => ⟨by omega, hc⟩, fun _ => by simp⟩
   ·
    rename_i hc
    rw [ih]
    constructor
    ·
     rintro ⟨h1, _⟩; omega
    ·
     rintro ⟨_, h2⟩; exact absurd h2 hc
  ·
   split
   ·
    rw [List.mem_cons, ih]
    constructor
    ·
     rintro (h1 | ⟨h1, h2⟩)
     ·
      exact absurd h1 hx
     ·
      exact ⟨by omega, h2⟩
    ·
     rintro ⟨h1, h2⟩; exact .inr ⟨by omega, h2⟩
   ·
    rw [ih]
    constructor
    ·
     rintro ⟨h1, h2⟩; exact ⟨by omega, h2⟩
    ·
     rintro ⟨h1, h2⟩; exact ⟨by omega, h2⟩
end Go.Proofs.Ythhjhbndnipdgaa.Pure

/- The laws' own comparisons of plans and lists. -/
namespace Go.Proofs.Ythhjhbndnipdgaa.Pure
open Go.RowKit Go.Proofs.Ythhjhbndnipdgaa.P Go.Proofs.YthhjhbndnipdgaaW.PrintWords Go.Proofs.YthhjhbndnipdgaaW.PrintLast
set_option linter.unusedVariables false

theorem rPlans_l0 (a : List S44) (hl : a.length ≤ 1048576) : ∀ (d i : Nat), a.length - i = d → i ≤ a.length → Ev (fun k => laws_rPlans.l0 k a a (i : Int)) true := by
 intro d
 induction d with
 | zero =>
  intro i hd hi
  refine Ev.step (fun k => by rw [laws_rPlans.l0]) ?_
  exact Ev.neg (by omega) (Ev.now _)
 | succ d ih =>
  intro i hd hi
  refine Ev.step (fun k => by rw [laws_rPlans.l0]) ?_
  refine Ev.pos (by omega) (Ev.pos (by omega) (Ev.pos (by omega) (Ev.neg (by simp) ?_)))
  rw [w64 (by omega) (by omega), show (i : Int) + 1 = ((i + 1 : Nat) : Int) from by omega]
  exact ih (i + 1) (by omega) (by omega)
theorem rPlans_refl (a : List S44) (hl : a.length ≤ 1048576) : Ev (fun k => laws_rPlans.f k a a) true := by
 unfold laws_rPlans.f
 exact Ev.pos rfl (rPlans_l0 a hl _ 0 rfl (by omega))
end Go.Proofs.Ythhjhbndnipdgaa.Pure

/- The laws' own membership. -/
namespace Go.Proofs.Ythhjhbndnipdgaa.Pure
open Go.RowKit Go.Proofs.Ythhjhbndnipdgaa.P Go.Proofs.YthhjhbndnipdgaaW.PrintWords Go.Proofs.YthhjhbndnipdgaaW.PrintLast
set_option linter.unusedVariables false

theorem rHas_l0 (l : List Int) (x : Int) (hl : l.length ≤ 1048576) : ∀ (d i : Nat), l.length - i = d → i ≤ l.length → Ev (fun k => laws_rHas.l0 k l x (i : Int)) (decide (x ∈ l.drop i)) := by
 intro d
 induction d with
 | zero =>
  intro i hd hi
  refine Ev.step (fun k => by rw [laws_rHas.l0]) ?_
  rw [List.drop_of_length_le (by omega)]
  exact Ev.neg (by omega) (Ev.const (by simp))
 | succ d ih =>
  intro i hd hi
  have hlt : i < l.length := by omega
  refine Ev.step (fun k => by rw [laws_rHas.l0]) ?_
  refine Ev.pos (by omega) (Ev.pos (by omega) ?_)
  rw [rd_lt l i hlt, w64 (by omega) (by omega), show (i : Int) + 1 = ((i + 1 : Nat) : Int) from by omega]
  have hdr := drop_cons' l i hlt
  rw [hdr]
  refine Ev.cases (fun h => ?_) (fun h => ?_)
  ·
   exact Ev.const (by rw [h]; simp)
  ·
   refine Ev.eq (ih (i + 1) (by omega) (by omega)) ?_
   have : ¬ x = l[i] := fun e => h e.symm
   simp only [List.mem_cons, this, false_or]
theorem rHas (l : List Int) (x : Int) (hl : l.length ≤ 1048576) : Ev (fun k => laws_rHas.f k l x) (decide (x ∈ l)) := by
 unfold laws_rHas.f
 exact Ev.eq (rHas_l0 l x hl _ 0 rfl (by omega)) (by simp)
end Go.Proofs.Ythhjhbndnipdgaa.Pure

/- The laws' own comparison of lists of numbers. -/
namespace Go.Proofs.Ythhjhbndnipdgaa.Pure
open Go.RowKit Go.Proofs.Ythhjhbndnipdgaa.P Go.Proofs.YthhjhbndnipdgaaW.PrintWords Go.Proofs.YthhjhbndnipdgaaW.PrintLast
set_option linter.unusedVariables false

theorem rInts_l0 (a : List Int) (hl : a.length ≤ 1048576) : ∀ (d i : Nat), a.length - i = d → i ≤ a.length → Ev (fun k => laws_rInts.l0 k a a (i : Int)) true := by
 intro d
 induction d with
 | zero =>
  intro i hd hi
  refine Ev.step (fun k => by rw [laws_rInts.l0]) ?_
  exact Ev.neg (by omega) (Ev.now _)
 | succ d ih =>
  intro i hd hi
  refine Ev.step (fun k => by rw [laws_rInts.l0]) ?_
  refine Ev.pos (by omega) (Ev.pos (by omega) (Ev.pos (by omega) (Ev.pos rfl ?_)))
  rw [w64 (by omega) (by omega), show (i : Int) + 1 = ((i + 1 : Nat) : Int) from by omega]
  exact ih (i + 1) (by omega) (by omega)
theorem rInts_refl (a : List Int) (hl : a.length ≤ 1048576) : Ev (fun k => laws_rInts.f k a a) true := by
 unfold laws_rInts.f
 exact Ev.pos rfl (rInts_l0 a hl _ 0 rfl (by omega))
end Go.Proofs.Ythhjhbndnipdgaa.Pure

namespace Go.Proofs.Ythhjhbndnipdgaa.Pure
open Go.RowKit Go.Proofs.Ythhjhbndnipdgaa.P Go.Proofs.YthhjhbndnipdgaaW.PrintWords Go.Proofs.YthhjhbndnipdgaaW.PrintLast
set_option linter.unusedVariables false

theorem cover_j4 {l0 : List Int} (hc : Code l0) : Ev (fun k => laws_FnCover.j4 k l0) true := by
 obtain ⟨l, hd, hl⟩ := drawPlan hc
 have hn := hoT_len l
 refine Ev.step (fun k => by rw [laws_FnCover.j4]) ?_
 exact Ev.bind hd (Ev.bind (ho_impl l (by omega)) (Ev.bind (ho_spec l (by omega)) (Ev.pos (by simp) (Ev.bind (rInts_refl _ (by omega)) (Ev.now _)))))
theorem cover_ex {l0 : List Int} (hc : Code l0) : Ev (fun k => (spec_DrawExchangePersons.f k l0).bind fun b1 => ((impl_ExchangePersons.f k b1.1 b1.2.1 b1.2.2).bind fun b2 => ((spec_ExchangePersons.f k b1.1 b1.2.1 b1.2.2).bind fun b3 => (if (b2.2 != b3.2) = true then (laws_FnCover.j3 k l0 b1.1 b1.2.1 b1.2.2 b2.1 b2.2 true) else ((laws_rPlans.f k b2.1 b3.1).bind fun t => (laws_FnCover.j3 k l0 b1.1 b1.2.1 b1.2.2 b2.1 b2.2 (!t))))))) true := by
 obtain ⟨l, a, b, hd, hl⟩ := drawEx hc
 have e1 := ex_impl l a b (by omega)
 have e2 := ex_spec l a b (by omega)
 have hn := exT_len l a b
 refine Ev.bind hd (Ev.bind e1 (Ev.bind e2 (Ev.neg (by simp) (Ev.bind (rPlans_refl _ (by omega)) ?_))))
 refine Ev.step (fun k => by rw [laws_FnCover.j3]) ?_
 refine Ev.neg (by simp) (Ev.cases (fun h => ?_) (fun h => cover_j4 hc))
 simp only at h ⊢
 have hh : planB l = true ∧ (1 ≤ a ∧ a ≤ 8) ∧ (1 ≤ b ∧ b ≤ 8) := by
  unfold exT at h
  by_cases h1 : planB l = true ∧ (1 ≤ a ∧ a ≤ 8) ∧ (1 ≤ b ∧ b ≤ 8)
  ·
   exact h1
  ·
   rw [if_neg h1] at h; cases h
 have eq : exT l a b = (sortD (l.map (swapD a b)), true) := by unfold exT; rw [if_pos hh]
 rw [eq] at hn
 simp only [eq]
 have hP := planB_true.1 hh.1
 have hQ := plan_swap hP a b hh.2.1 hh.2.2
 simp only at hn
 have t1 := dutyHours_impl l a (by omega)
 have t2 := dutyHours_impl (sortD (l.map (swapD a b))) b (by omega)
 have g1 : dutyHoursT l a = (sumH a l, true) := by unfold dutyHoursT; rw [if_pos ⟨hh.1, hh.2.1⟩]
 have g2 : dutyHoursT (sortD (l.map (swapD a b))) b = (sumH a l, true) := by
  unfold dutyHoursT
  rw [if_pos ⟨planB_of hQ, hh.2.2⟩, sumH_perm b (sort_map_perm l a b), sumH_swap]
 rw [g1] at t1
 rw [g2] at t2
 have t3 := ex_impl (sortD (l.map (swapD a b))) a b (by omega)
 have g3 : exT (sortD (l.map (swapD a b))) a b = (l, true) := by
  unfold exT
  rw [if_pos ⟨planB_of hQ, hh.2⟩, swap_back hP.1.2.1]
 rw [g3] at t3
 have t4 := ho_impl l (by omega)
 have t5 := ho_impl (sortD (l.map (swapD a b))) (by omega)
 have g4 : hoT l = (hoS l, true) := by unfold hoT; rw [if_pos hh.1]
 have g5 : hoT (sortD (l.map (swapD a b))) = (hoS l, true) := by unfold hoT; rw [if_pos (planB_of hQ), ho_swap]
 rw [g4] at t4
 rw [g5] at t5
 have hs := hoS_len l
 have t6 := isValidPlan (sortD (l.map (swapD a b))) (by omega)
 rw [planB_of hQ] at t6
 exact Ev.bind t1 (Ev.bind t2 (Ev.bind t3 (Ev.bind t4 (Ev.bind t5 (Ev.pos rfl (Ev.pos rfl (Ev.pos rfl (Ev.pos rfl (Ev.pos rfl (Ev.pos rfl (Ev.bind (rPlans_refl l (by omega)) (Ev.pos rfl (Ev.bind (rInts_refl (hoS l) (by omega)) (Ev.pos rfl (Ev.bind t6 (Ev.pos rfl (cover_j4 hc)))))))))))))))))
theorem cover_l0 {l0 : List Int} (hc : Code l0) (l : List S44) (hP : Plan l) (a b m : Int) (ha : 0 ≤ a) (hb : b ≤ 240) : ∀ (n : Nat) (h : Int), (b - h).toNat = n → a ≤ h → h ≤ b →
  Ev (fun k => laws_FnCover.l0 k l0 l b m (uncL l m (b - a).toNat a) true h) true := by
 have hn := hP.2
 intro n
 induction n with
 | zero =>
  intro h h0 h1 h2
  refine Ev.step (fun k => by rw [laws_FnCover.l0]) (Ev.pos rfl ?_)
  refine Ev.step (fun k => by rw [laws_FnCover.j2]) ?_
  exact Ev.neg (by simp; omega) (cover_ex hc)
 | succ n ih =>
  intro h h0 h1 h2
  have e1 := onDuty_impl l h (by omega)
  have e2 : onDutyT l h = (onS h l, true) := by unfold onDutyT; rw [if_pos ⟨planB_of hP, by omega, by omega⟩]
  rw [e2] at e1
  have hlen := uncL_len l m (b - a).toNat a
  have e3 := rHas (uncL l m (b - a).toNat a) h (by omega)
  refine Ev.step (fun k => by rw [laws_FnCover.l0]) (Ev.pos rfl ?_)
  refine Ev.step (fun k => by rw [laws_FnCover.j2]) ?_
  refine Ev.pos (decide_eq_true (by omega)) (Ev.bind e1 (Ev.pos rfl (Ev.bind e3 (Ev.neg ?_ ?_))))
  ·
   have h3 : (h ∈ uncL l m (b - a).toNat a) ↔ ((onS h l).length : Int) < m := by
    rw [uncL_mem, onS_len]
    exact ⟨fun h => h.2, fun h => ⟨by omega, h⟩⟩
   by_cases h4 : ((onS h l).length : Int) < m
   ·
    rw [decide_eq_true (h3.2 h4), decide_eq_true h4]; decide
   ·
    rw [decide_eq_false (fun h5 => h4 (h3.1 h5)), decide_eq_false h4]; decide
  ·
   rw [w64 (x := h + 1) (by omega) (by omega)]
   exact ih (h + 1) (by omega) (by omega) (by omega)
theorem FnCover : laws_FnCover.Pure := by
 intro l0 _ _ hwf
 apply Ev.rounds
 have hc : Code l0 := code_of hwf
 unfold laws_FnCover.f
 refine Ev.bindc (show laws_rBig.f l0 = some (decide ((l0.length : Int) > 65536)) from rfl) ?_
 refine Ev.cases (fun _ => Ev.now _) (fun _ => ?_)
 obtain ⟨l, a, b, m, hd, hl⟩ := drawUnc hc
 have hn := uncT_len l a b m
 refine Ev.bind hd (Ev.bind (unc_impl l a b m (by omega)) (Ev.bind (unc_spec l a b m (by omega)) (Ev.neg (by simp) (Ev.bind (rInts_refl _ (by omega)) ?_))))
 refine Ev.step (fun k => by rw [laws_FnCover.j0]) (Ev.neg (by simp) ?_)
 simp only
 by_cases hh : planB l = true ∧ 0 ≤ a ∧ a ≤ b ∧ b ≤ 240 ∧ 1 ≤ m ∧ m ≤ 8
 ·
  have eq : uncT l a b m = (uncL l m (b - a).toNat a, true) := by unfold uncT; rw [if_pos hh]
  simp only [eq]
  exact cover_l0 hc l (planB_true.1 hh.1) a b m hh.2.1 hh.2.2.2.1 _ a rfl (by omega) hh.2.2.1
 ·
  have eq : uncT l a b m = ([], false) := by unfold uncT; rw [if_neg hh]
  simp only [eq]
  refine Ev.step (fun k => by rw [laws_FnCover.l0]) (Ev.neg (by simp) ?_)
  refine Ev.step (fun k => by rw [laws_FnCover.j2]) ?_
  exact Ev.neg (by simp) (cover_ex hc)
end Go.Proofs.Ythhjhbndnipdgaa.Pure
