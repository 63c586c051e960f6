/- The program's NewConsole returns what the reference's returns, for all arguments. Conditions: none beyond the given statement's. -/
import Derived.Test.YtlnlabndaikbnaaPx0
import Derived.Test.YtlnlabndaikbnaaPx7
import Derived.Test.YtlnlabndaikbnaaPx5
import Derived.Test.YtlnlabndaikbnaaPx4
import Derived.Test.YtlnlabndaikbnaaPx6
import Derived.Test.YtlnlabndaikbnaaPx3
import Derived.Test.YtlnlabndaikbnaaPx2
import Derived.Test.YtlnlabndaikbnaaPx9
import Derived.Test.YtlnlabndaikbnaaPx10
import Derived.Test.YtlnlabndaikbnaaPx11
/- Small laws on "with enough rounds the function answers r" (Ev) and on wrapping sums; used by every plain law of this seat. -/
namespace Go.Proofs.Ytlnlabndaikbnaa.Pure
open Go.RowKit Go.Proofs.YtlnlabndaikbnaaW.PrintWords Go.Proofs.YtlnlabndaikbnaaW.PrintLast

section
variable {α β : Type} {r : α} {f g : Nat → Option α}
theorem Ev.pos {c : Prop} [Decidable c] (h : c) (e : Ev f r) : Ev (fun k => if c then f k else g k) r := e.congr fun _ => if_pos h
theorem Ev.neg {c : Prop} [Decidable c] (h : ¬ c) (e : Ev g r) : Ev (fun k => if c then f k else g k) r := e.congr fun _ => if_neg h
theorem Ev.const {a : Option α} (h : a = some r) : Ev (fun _ => a) r := ⟨0, fun _ _ => h⟩
theorem Ev.bindc {a : Option β} {b : β} {f : Nat → β → Option α} (h : a = some b) (k : Ev (fun n => f n b) r) : Ev (fun n => a.bind (f n)) r := Ev.bind (Ev.const h) k
theorem Ev.eq {r' : α} (h : Ev f r) (e : r = r') : Ev f r' := e ▸ h
theorem Ev.cases {c : Prop} [Decidable c] (h1 : c → Ev f r) (h2 : ¬ c → Ev g r) : Ev (fun k => if c then f k else g k) r := by
  by_cases h : c
  · exact Ev.pos h (h1 h)
  · exact Ev.neg h (h2 h)
/-- Two answers of one function are one. -/
theorem Ev.uniq {r' : α} (h : Ev f r) (h' : Ev f r') : r = r' := by
  obtain ⟨K, hK⟩ := h
  obtain ⟨K', hK'⟩ := h'
  have a := hK (max K K') (Nat.le_max_left _ _)
  have b := hK' (max K K') (Nat.le_max_right _ _)
  rw [a] at b
  exact Option.some.inj b
end

theorem w64 {x : Int} (h1 : -9223372036854775808 ≤ x) (h2 : x ≤ 9223372036854775807) : wrap64 x = x := by unfold wrap64; omega

theorem rd_nat (l : List Int) (i : Nat) : rd l (i : Int) = l.getD i 0 := by simp [rd]
theorem rd_lt (l : List Int) (i : Nat) (h : i < l.length) : rd l (i : Int) = l[i] := by simp [rd, h]
theorem take_succ' {α : Type} (l : List α) (i : Nat) (h : i < l.length) : l.take (i + 1) = l.take i ++ [l[i]] := by
  rw [List.take_succ_eq_append_getElem h]
theorem drop_cons' {α : Type} (l : List α) (i : Nat) (h : i < l.length) : l.drop i = l[i] :: l.drop (i + 1) := List.drop_eq_getElem_cons h
end Go.Proofs.Ytlnlabndaikbnaa.Pure

/- Lists of warnings: what is consistent, and that the program and the reference both say so; the laws' own helpers. -/
namespace Go.Proofs.Ytlnlabndaikbnaa.Pure
open Go.RowKit Go.Proofs.Ytlnlabndaikbnaa.P Go.Proofs.YtlnlabndaikbnaaW.PrintWords Go.Proofs.YtlnlabndaikbnaaW.PrintLast
set_option linter.unusedVariables false
set_option linter.unusedSimpArgs false

theorem rdW_lt (l : List S40) (i : Nat) (h : i < l.length) : rd_T40 l (i : Int) = l[i] := by simp [rd_T40, h]
theorem l1In_d (x a b : Int) : spec_l1In.f x a b = some (decide (a ≤ x ∧ x ≤ b)) := by
  unfold spec_l1In.f
  by_cases h : x ≥ a
  · rw [if_pos h]; congr 1; simp; omega
  · rw [if_neg h]; congr 1; simp; omega
theorem within_d (x a b : Int) : impl_within.f x a b = some (decide (a ≤ x ∧ x ≤ b)) := by
  unfold impl_within.f
  by_cases h : x ≥ a
  · rw [if_pos h]; congr 1; simp; omega
  · rw [if_neg h]; congr 1; simp; omega
/-- A warning for itself. -/
def GoodW (w : S40) : Prop := (1 ≤ w.f0 ∧ w.f0 ≤ 999) ∧ (1 ≤ w.f1 ∧ w.f1 ≤ 5) ∧ (1 ≤ w.f2 ∧ w.f2 ≤ 3) ∧ (1 ≤ w.f3 ∧ w.f3 ≤ 9) ∧ 0 ≤ w.f4 ∧ w.f4 < w.f5 ∧ w.f5 ≤ 240
instance (w : S40) : Decidable (GoodW w) := by unfold GoodW; infer_instance
def MeetW (a b : S40) : Prop := a.f1 = b.f1 ∧ a.f3 = b.f3 ∧ a.f4 < b.f5 ∧ b.f4 < a.f5
instance (a b : S40) : Decidable (MeetW a b) := by unfold MeetW; infer_instance
theorem goodS_f (w : S40) : spec_l14Good.f w.f0 w.f1 w.f2 w.f3 w.f4 w.f5 = some (decide (GoodW w)) := by
  obtain ⟨x0, x1, x2, x3, x4, x5⟩ := w
  unfold spec_l14Good.f GoodW
  simp only [l1In_d, Option.bind_some, decide_eq_true_eq]
  by_cases h0 : 1 ≤ x0 ∧ x0 ≤ 999
  · rw [if_pos h0]
    by_cases h1 : 1 ≤ x1 ∧ x1 ≤ 5
    · rw [if_pos h1]
      by_cases h2 : 1 ≤ x2 ∧ x2 ≤ 3
      · rw [if_pos h2]
        by_cases h3 : 1 ≤ x3 ∧ x3 ≤ 9
        · rw [if_pos h3]
          by_cases h4 : 1 ≤ x5 ∧ x5 ≤ 240
          · rw [if_pos h4, w64 (x := x5 - 1) (by omega) (by omega)]; congr 1; exact decide_eq_decide.mpr (by omega)
          · rw [if_neg h4]; congr 1; exact (decide_eq_false (by omega)).symm
        · rw [if_neg h3]; congr 1; exact (decide_eq_false (by omega)).symm
      · rw [if_neg h2]; congr 1; exact (decide_eq_false (by omega)).symm
    · rw [if_neg h1]; congr 1; exact (decide_eq_false (by omega)).symm
  · rw [if_neg h0]; congr 1; exact (decide_eq_false (by omega)).symm
theorem goodI_f (w : S40) : impl_IsValidWarning.f w.f0 w.f1 w.f2 w.f3 w.f4 w.f5 = some (decide (GoodW w)) := by
  obtain ⟨x0, x1, x2, x3, x4, x5⟩ := w
  unfold impl_IsValidWarning.f GoodW
  simp only [within_d, Option.bind_some, decide_eq_true_eq]
  by_cases h0 : 1 ≤ x0 ∧ x0 ≤ 999
  · rw [if_pos h0]
    by_cases h1 : 1 ≤ x1 ∧ x1 ≤ 5
    · rw [if_pos h1]
      by_cases h2 : 1 ≤ x2 ∧ x2 ≤ 3
      · rw [if_pos h2]
        by_cases h3 : 1 ≤ x3 ∧ x3 ≤ 9
        · rw [if_pos h3]
          by_cases h4 : x4 ≥ 0
          · rw [if_pos h4]
            by_cases h5 : x4 < x5
            · rw [if_pos h5]; congr 1; exact decide_eq_decide.mpr (by omega)
            · rw [if_neg h5]; congr 1; exact (decide_eq_false (by omega)).symm
          · rw [if_neg h4]; congr 1; exact (decide_eq_false (by omega)).symm
        · rw [if_neg h3]; congr 1; exact (decide_eq_false (by omega)).symm
      · rw [if_neg h2]; congr 1; exact (decide_eq_false (by omega)).symm
    · rw [if_neg h1]; congr 1; exact (decide_eq_false (by omega)).symm
  · rw [if_neg h0]; congr 1; exact (decide_eq_false (by omega)).symm
theorem meetS_f (a b : S40) : spec_l14Meet.f a.f0 a.f1 a.f2 a.f3 a.f4 a.f5 b.f0 b.f1 b.f2 b.f3 b.f4 b.f5 = some (decide (MeetW a b)) := by
  unfold spec_l14Meet.f MeetW
  by_cases h1 : a.f1 = b.f1
  · rw [if_pos h1]
    by_cases h2 : a.f3 = b.f3
    · rw [if_pos h2]
      by_cases h3 : a.f4 < b.f5
      · rw [if_pos h3]; congr 1; exact decide_eq_decide.mpr (by omega)
      · rw [if_neg h3]; congr 1; exact (decide_eq_false (by omega)).symm
    · rw [if_neg h2]; congr 1; exact (decide_eq_false (by omega)).symm
  · rw [if_neg h1]; congr 1; exact (decide_eq_false (by omega)).symm
theorem meetI_f (a b : S40) : meetP a.f0 a.f1 a.f2 a.f3 a.f4 a.f5 b = decide (MeetW a b) := by
  have h : impl_doMeet.f a.f0 a.f1 a.f2 a.f3 a.f4 a.f5 b.f0 b.f1 b.f2 b.f3 b.f4 b.f5 = some (decide (MeetW a b)) := meetS_f a b
  unfold meetP
  rw [h]; rfl
theorem meet_comm (a b : S40) : MeetW a b ↔ MeetW b a := by unfold MeetW; omega
/-- The warning at a place is good, comes behind the one before it, and meets none before it. -/
def OkAt (l : List S40) (i : Nat) (h : i < l.length) : Prop := GoodW l[i] ∧ (∀ hp : 0 < i, (l[i - 1]'(by omega)).f0 < l[i].f0) ∧ ∀ k (hk : k < i), ¬ MeetW (l[k]'(by omega)) l[i]
def Cons (l : List S40) : Prop := l.length ≤ 12 ∧ ∀ i (h : i < l.length), OkAt l i h
open Classical in
noncomputable def consB (l : List S40) : Bool := decide (Cons l)
theorem consB_true {l : List S40} : consB l = true ↔ Cons l := by unfold consB; simp
theorem consB_not {l : List S40} (h : ¬ Cons l) : consB l = false := by
  cases e : consB l with
  | false => rfl
  | true => exact absurd (consB_true.1 e) h
/-! ### the reference -/
theorem listS_l1 (l : List S40) (hl : l.length ≤ 12) (i : Nat) (hi : i < l.length) (r : Bool) (hno : (∃ k, ∃ hk : k < i, MeetW (l[k]'(by omega)) l[i]) → r = false) (hyes : (∀ k (hk : k < i), ¬ MeetW (l[k]'(by omega)) l[i]) → Ev (fun n => spec_l14List.l0 n l ((i + 1 : Nat) : Int)) r) :
    ∀ (d j : Nat) (_ : i - j = d) (hj : j ≤ i), (∀ k (hk : k < j), ¬ MeetW (l[k]'(by omega)) l[i]) → Ev (fun n => spec_l14List.l1 n l (i : Int) (j : Int)) r := by
  intro d
  induction d with
  | zero =>
    intro j hd hj hall
    obtain rfl : j = i := by omega
    refine Ev.step (fun k => by rw [spec_l14List.l1]) ?_
    rw [w64 (x := (j : Int) + 1) (by omega) (by omega), show (j : Int) + 1 = ((j + 1 : Nat) : Int) from by omega]
    exact Ev.neg (by omega) (hyes hall)
  | succ d ih =>
    intro j hd hj hall
    have hlt : j < i := by omega
    refine Ev.step (fun k => by rw [spec_l14List.l1]) ?_
    rw [rdW_lt l j (by omega), rdW_lt l i hi, w64 (x := (j : Int) + 1) (by omega) (by omega), show (j : Int) + 1 = ((j + 1 : Nat) : Int) from by omega]
    refine Ev.pos (by omega) (Ev.pos (by omega) (Ev.pos (by omega) (Ev.pos (by omega) (Ev.pos (by omega) (Ev.bindc (meetS_f _ _) (Ev.cases (fun h => ?_) (fun h => ?_)))))))
    · rw [hno ⟨j, hlt, of_decide_eq_true h⟩]; exact Ev.now _
    · refine ih (j + 1) (by omega) (by omega) (fun k hk => ?_)
      by_cases e : k = j
      · subst e; exact fun hm => h (decide_eq_true hm)
      · exact hall k (by omega)
theorem listS_l0 (l : List S40) (hl : l.length ≤ 12) : ∀ (d i : Nat), l.length - i = d → i ≤ l.length → (∀ j (hj : j < i) (h : j < l.length), OkAt l j h) →
    Ev (fun k => spec_l14List.l0 k l (i : Int)) (consB l) := by
  intro d
  induction d with
  | zero =>
    intro i hd hi hall
    refine Ev.step (fun k => by rw [spec_l14List.l0]) ?_
    refine Ev.neg (by omega) (Ev.const ?_)
    rw [consB_true.2 ⟨hl, fun j h => hall j (by omega) h⟩]
  | succ d ih =>
    intro i hd hi hall
    have hlt : i < l.length := by omega
    have hbad : ¬ OkAt l i hlt → consB l = false := fun h => consB_not (fun hC => h (hC.2 i hlt))
    have hj : ∀ b : Bool, (b = true → ¬ OkAt l i hlt) → (b = false → GoodW l[i] ∧ ∀ hp : 0 < i, (l[i - 1]'(by omega)).f0 < l[i].f0) → Ev (fun k => spec_l14List.j1 k l (i : Int) b) (consB l) := fun b hb1 hb2 => by
      refine Ev.step (fun k => by rw [spec_l14List.j1]) ?_
      cases b with
      | true => rw [hbad (hb1 rfl)]; exact Ev.pos rfl (Ev.now _)
      | false =>
        have hg := hb2 rfl
        refine Ev.neg (by simp) (listS_l1 l hl i hlt _ (fun ⟨k, hk, hm⟩ => hbad (fun hO => hO.2.2 k hk hm)) (fun hn => ih (i + 1) (by omega) (by omega) (fun j hj h => ?_)) _ 0 rfl (by omega) (fun k hk => absurd hk (Nat.not_lt_zero _)))
        by_cases e : j = i
        · subst e; exact ⟨hg.1, hg.2, hn⟩
        · exact hall j (by omega) h
    refine Ev.step (fun k => by rw [spec_l14List.l0]) ?_
    rw [rdW_lt l i hlt]
    refine Ev.pos (by omega) (Ev.pos (by omega) (Ev.bindc (goodS_f _) (Ev.cases (fun h1 => ?_) (fun h1 => ?_))))
    · have h1 := of_decide_eq_true h1
      refine Ev.cases (fun hp => ?_) (fun hp => hj false (fun h => by cases h) (fun _ => ⟨h1, fun h => by omega⟩))
      have ew : wrap64 ((i : Int) - 1) = ((i - 1 : Nat) : Int) := by rw [w64 (by omega) (by omega)]; omega
      rw [ew, rdW_lt l (i - 1) (by omega)]
      refine Ev.pos (by omega) (Ev.pos (by omega) (hj _ (fun h hO => ?_) (fun h => ⟨h1, fun _ => ?_⟩)))
      · have := hO.2.1 (by omega); have := of_decide_eq_true h; omega
      · have := of_decide_eq_false h; omega
    · exact hj true (fun _ hO => h1 (decide_eq_true hO.1)) (fun h => by cases h)
theorem consS (l : List S40) : Ev (fun k => spec_l14List.f k l) (consB l) := by
  unfold spec_l14List.f
  refine Ev.cases (fun h => ?_) (fun h => listS_l0 l (by omega) _ 0 rfl (by omega) (fun j hj => absurd hj (Nat.not_lt_zero _)))
  rw [consB_not (fun hC => by have := hC.1; omega)]; exact Ev.now _
/-! ### the program -/
def AreW (l : List S40) : Prop := l.length ≤ 12 ∧ ∀ i (h : i < l.length), GoodW l[i] ∧ ∀ hp : 0 < i, (l[i - 1]'(by omega)).f0 < l[i].f0
open Classical in
theorem areI_l0 (l : List S40) (hl : l.length ≤ 1048577) : ∀ (d i : Nat), l.length - i = d → i ≤ l.length → (∀ j (hj : j < i) (h : j < l.length), GoodW l[j] ∧ ∀ hp : 0 < j, (l[j - 1]'(by omega)).f0 < l[j].f0) →
    Ev (fun k => impl_areWarnings.l0 k l l (l.length : Int) (i : Int)) (decide (AreW l)) := by
  intro d
  induction d with
  | zero =>
    intro i hd hi hall
    refine Ev.step (fun k => by rw [impl_areWarnings.l0]) ?_
    refine Ev.neg (by omega) (Ev.const ?_)
    congr 1
    exact decide_eq_decide.mpr ⟨fun h => ⟨by omega, fun j hj => hall j (by omega) hj⟩, fun h => by have := h.1; omega⟩
  | succ d ih =>
    intro i hd hi hall
    have hlt : i < l.length := by omega
    have hnext : GoodW l[i] → (∀ hp : 0 < i, (l[i - 1]'(by omega)).f0 < l[i].f0) → Ev (fun k => impl_areWarnings.l0 k l l (l.length : Int) ((i + 1 : Nat) : Int)) (decide (AreW l)) := fun h1 h2 => ih (i + 1) (by omega) (by omega) (fun j hj h => by
      by_cases e : j = i
      · subst e; exact ⟨h1, h2⟩
      · exact hall j (by omega) h)
    refine Ev.step (fun k => by rw [impl_areWarnings.l0]) ?_
    rw [rdW_lt l i hlt, w64 (x := (i : Int) + 1) (by omega) (by omega), show (i : Int) + 1 = ((i + 1 : Nat) : Int) from by omega]
    refine Ev.pos (by omega) (Ev.pos (by omega) (Ev.pos (by omega) (Ev.bindc (goodI_f _) (Ev.cases (fun h1 => ?_) (fun h1 => Ev.const ?_)))))
    · have h1 := of_decide_eq_true h1
      refine Ev.cases (fun hp => ?_) (fun hp => hnext h1 (fun h => by omega))
      have ew : wrap64 ((i : Int) - 1) = ((i - 1 : Nat) : Int) := by rw [w64 (by omega) (by omega)]; omega
      rw [ew, rdW_lt l (i - 1) (by omega)]
      refine Ev.pos (by omega) (Ev.pos (by omega) (Ev.cases (fun h2 => Ev.const ?_) (fun h2 => hnext h1 (fun _ => by omega))))
      rw [decide_eq_false (fun hA => by have := (hA.2 i hlt).2 (by omega); omega)]
    · rw [decide_eq_false (fun hA => h1 (decide_eq_true (hA.2 i hlt).1))]
open Classical in
theorem areI (l : List S40) (hl : l.length ≤ 1048577) : Ev (fun k => impl_areWarnings.f k l) (decide (AreW l)) := by
  unfold impl_areWarnings.f
  exact areI_l0 l hl _ 0 rfl (by omega) (fun j hj => absurd hj (Nat.not_lt_zero _))
theorem consI_l0 (l : List S40) (hA : AreW l) : ∀ (d i : Nat), l.length - i = d → i ≤ l.length → (∀ j (hj : j < i) (h : j < l.length), OkAt l j h) →
    Ev (fun k => impl_IsConsistent.l0 k l l (l.length : Int) (i : Int)) (consB l) := by
  have hl := hA.1
  intro d
  induction d with
  | zero =>
    intro i hd hi hall
    refine Ev.step (fun k => by rw [impl_IsConsistent.l0]) ?_
    refine Ev.neg (by omega) (Ev.const ?_)
    rw [consB_true.2 ⟨hl, fun j h => hall j (by omega) h⟩]
  | succ d ih =>
    intro i hd hi hall
    have hlt : i < l.length := by omega
    refine Ev.step (fun k => by rw [impl_IsConsistent.l0]) ?_
    rw [rdW_lt l i hlt, w64 (x := (i : Int) + 1) (by omega) (by omega), show (i : Int) + 1 = ((i + 1 : Nat) : Int) from by omega, Int.toNat_natCast]
    refine Ev.pos (by omega) (Ev.pos (by omega) (Ev.pos (by omega) (Ev.pos (by omega) (Ev.bindc (b := (l.take i).any fun o => meetP l[i].f0 l[i].f1 l[i].f2 l[i].f3 l[i].f4 l[i].f5 o) rfl (Ev.cases (fun h => ?_) (fun h => ?_))))))
    · obtain ⟨x, hx, hm⟩ := List.any_eq_true.1 h
      rw [meetI_f] at hm
      obtain ⟨k, hk, rfl⟩ := List.getElem_of_mem hx
      have hk2 : k < i := by simp at hk; omega
      rw [consB_not (fun hC => (hC.2 i hlt).2.2 k hk2 ((meet_comm _ _).1 (by simpa using hm)))]
      exact Ev.now _
    · refine ih (i + 1) (by omega) (by omega) (fun j hj h2 => ?_)
      by_cases e : j = i
      · subst e
        refine ⟨(hA.2 j hlt).1, (hA.2 j hlt).2, fun k hk hm => h (List.any_eq_true.2 ⟨l[k], ?_, ?_⟩)⟩
        · rw [List.mem_iff_getElem]; exact ⟨k, by simp; omega, by simp⟩
        · rw [meetI_f]; exact decide_eq_true ((meet_comm _ _).1 hm)
      · exact hall j (by omega) h2
open Classical in
theorem consI (l : List S40) (hl : l.length ≤ 1048577) : Ev (fun k => impl_IsConsistent.f k l) (consB l) := by
  unfold impl_IsConsistent.f
  refine Ev.bind (areI l hl) (Ev.cases (fun h => ?_) (fun h => ?_))
  · exact consI_l0 l (of_decide_eq_true h) _ 0 rfl (by omega) (fun j hj => absurd hj (Nat.not_lt_zero _))
  · rw [consB_not (fun hC => h (decide_eq_true ⟨hC.1, fun i hi => ⟨(hC.2 i hi).1, (hC.2 i hi).2.1⟩⟩))]
    exact Ev.now _
end Go.Proofs.Ytlnlabndaikbnaa.Pure

/- The laws' own helpers on lists of warnings: a copy, an equality, marks and their check. -/
namespace Go.Proofs.Ytlnlabndaikbnaa.Pure
open Go.RowKit Go.Proofs.Ytlnlabndaikbnaa.P Go.Proofs.YtlnlabndaikbnaaW.PrintWords Go.Proofs.YtlnlabndaikbnaaW.PrintLast
set_option linter.unusedVariables false

def convW (z : S42) : S40 := ⟨z.f0, z.f1, z.f2, z.f3, z.f4, z.f5⟩
theorem rdW0_lt (l : List S42) (i : Nat) (h : i < l.length) : rd_T42 l (i : Int) = l[i] := by simp [rd_T42, h]
theorem toWarningS_l0 (l : List S42) (hl : l.length ≤ 1048576) : ∀ (d i : Nat) (o : List S40), l.length - i = d → i ≤ l.length → o.length = l.length → o.take i = (l.map convW).take i →
    Ev (fun k => laws_toWarningS.l0 k l o (i : Int)) (l.map convW) := by
  intro d
  induction d with
  | zero =>
    intro i o hd hi ho ht
    refine Ev.step (fun k => by rw [laws_toWarningS.l0]) ?_
    refine Ev.neg (by omega) (Ev.const ?_)
    have hi' : i = l.length := by omega
    subst hi'
    rw [List.take_of_length_le (by omega), List.take_of_length_le (by simp)] at ht
    rw [ht]
  | succ d ih =>
    intro i o hd hi ho ht
    refine Ev.step (fun k => by rw [laws_toWarningS.l0]) ?_
    refine Ev.pos (by omega) (Ev.pos (by omega) ?_)
    refine Ev.bindc (b := (l[i].f0, l[i].f1, l[i].f2, l[i].f3, l[i].f4, l[i].f5)) (by rw [rdW0_lt l i (by omega)]; rfl) (Ev.pos (by omega) ?_)
    rw [w64 (by omega) (by omega), show (i : Int) + 1 = ((i + 1 : Nat) : Int) from by omega]
    refine ih (i + 1) _ (by omega) (by omega) (by simpa using ho) ?_
    rw [Int.toNat_natCast, take_succ' _ _ (by simp; omega), take_succ' (l.map convW) _ (by simp; omega)]
    rw [List.take_set_of_le (Nat.le_refl i), ht]; simp [convW]
theorem toWarningS (l : List S42) (hl : l.length ≤ 1048576) : Ev (fun k => laws_toWarningS.f k l) (l.map convW) := by
  unfold laws_toWarningS.f
  refine Ev.pos (by omega) (Ev.pos (by omega) ?_)
  exact toWarningS_l0 l hl _ 0 _ rfl (by omega) (by simp) (by simp)
theorem szWarningS (l : List S42) (hm : l.length ≤ 9223372036854775807) : ∃ t, laws_szWarningS.f l 1048576 = some t ∧ (¬ t < 0 → l.length ≤ 1048576) := by
  unfold laws_szWarningS.f
  rw [w64 (x := 1048576 - (l.length : Int)) (by omega) (by omega)]
  by_cases h : 1048576 - (l.length : Int) < 0
  · rw [if_pos h]; exact ⟨_, rfl, by omega⟩
  · rw [if_neg h]; exact ⟨_, rfl, by omega⟩
theorem eqWarning_l0 (a : List S40) (hl : a.length ≤ 4611686018427387904) : ∀ (d i : Nat), a.length - i = d → i ≤ a.length → Ev (fun k => laws_eqWarningS.l0 k a a (i : Int)) true := by
  intro d
  induction d with
  | zero =>
    intro i hd hi
    refine Ev.step (fun k => by rw [laws_eqWarningS.l0]) ?_
    exact Ev.neg (by omega) (Ev.now _)
  | succ d ih =>
    intro i hd hi
    refine Ev.step (fun k => by rw [laws_eqWarningS.l0]) ?_
    refine Ev.pos (by omega) (Ev.pos (by omega) (Ev.pos (by omega) ?_))
    refine Ev.bindc (b := true) (by unfold laws_eqWarning.f; simp) (Ev.pos rfl ?_)
    rw [w64 (by omega) (by omega), show (i : Int) + 1 = ((i + 1 : Nat) : Int) from by omega]
    exact ih (i + 1) (by omega) (by omega)
theorem eqWarning_refl (a : List S40) (hl : a.length ≤ 4611686018427387904) : Ev (fun k => laws_eqWarningS.f k a a) true := by
  unfold laws_eqWarningS.f
  exact Ev.pos rfl (eqWarning_l0 a hl _ 0 rfl (by omega))
/-! ### marks -/
def mW (x : Int) : S40 := ⟨x, x + 1, x + 1 + 1, x + 1 + 1 + 1, x + 1 + 1 + 1 + 1, x + 1 + 1 + 1 + 1 + 1⟩
def markedW : List S40 → Int → List S40
  | [], _ => []
  | _ :: xs, k => mW k :: markedW xs (k + 6)
theorem markedW_len : ∀ (l : List S40) (k : Int), (markedW l k).length = l.length
  | [], _ => rfl
  | _ :: xs, k => by simp [markedW, markedW_len xs]
theorem markedW_app : ∀ (xs ys : List S40) (k : Int), markedW (xs ++ ys) k = markedW xs k ++ markedW ys (k + 6 * xs.length)
  | [], ys, k => by simp [markedW]
  | x :: xs, ys, k => by
    simp only [List.cons_append, markedW, markedW_app xs ys (k + 6)]
    rw [show k + 6 + 6 * (xs.length : Int) = k + 6 * ((x :: xs).length : Int) from by simp; omega]
theorem markedW_get : ∀ (l : List S40) (a : Int) (i : Nat) (h : i < (markedW l a).length), (markedW l a)[i] = mW (a + 6 * i)
  | [], _, i, h => by simp [markedW] at h
  | x :: xs, a, 0, _ => by simp [markedW]
  | x :: xs, a, i + 1, h => by
    simp only [markedW, List.getElem_cons_succ]
    rw [markedW_get xs (a + 6) i (by simpa [markedW] using h), show a + 6 + 6 * (i : Int) = a + 6 * ((i + 1 : Nat) : Int) from by omega]
theorem markW_l0 (l : List S40) (a : Int) (ha : 0 ≤ a) (hb : a ≤ 1048576) (hl : l.length ≤ 1048576) : ∀ (d i : Nat), l.length - i = d → i ≤ l.length →
    Ev (fun k => laws_markWarningS.l0 k (markedW (l.take i) a ++ l.drop i) (a + 6 * i) (i : Int)) (a + 6 * l.length, markedW l a) := by
  intro d
  induction d with
  | zero =>
    intro i hd hi
    obtain rfl : i = l.length := by omega
    refine Ev.step (fun k => by rw [laws_markWarningS.l0]) ?_
    refine Ev.neg (by simp [markedW_len]) (Ev.const ?_)
    simp
  | succ d ih =>
    intro i hd hi
    have hlt : i < l.length := by omega
    have hml : (markedW (l.take i) a).length = i := by rw [markedW_len]; simp; omega
    have h1 := ih (i + 1) (by omega) (by omega)
    rw [take_succ' _ _ hlt, markedW_app, List.append_assoc, List.length_take, Nat.min_eq_left (by omega), show a + 6 * ((i + 1 : Nat) : Int) = a + 6 * (i : Int) + 1 + 1 + 1 + 1 + 1 + 1 by omega] at h1
    refine Ev.step (fun k => by rw [laws_markWarningS.l0]) ?_
    rw [List.drop_eq_getElem_cons hlt]
    have hset : ∀ x y : S40, (markedW (l.take i) a ++ x :: l.drop (i + 1)).set i y = markedW (l.take i) a ++ y :: l.drop (i + 1) := fun x y => by
      rw [List.set_append_right _ _ (by omega), hml, Nat.sub_self]; rfl
    have hrd : ∀ x : S40, rd_T40 (markedW (l.take i) a ++ x :: l.drop (i + 1)) (i : Int) = x := fun x => by
      rw [rdW_lt _ _ (by simp [hml]), List.getElem_append_right (by omega)]; simp [hml]
    have hlen : ∀ x : S40, (markedW (l.take i) a ++ x :: l.drop (i + 1)).length = l.length := fun x => by simp [hml]; omega
    have p1 : (i : Int) < (l.length : Int) := by omega
    have p2 : (0 : Int) ≤ (i : Int) := by omega
    obtain ⟨x, hx⟩ : ∃ x, a + 6 * (i : Int) = x := ⟨_, rfl⟩
    rw [hx] at h1 ⊢
    have hx0 : 0 ≤ x ∧ x ≤ 8000000 := by omega
    have e1 : wrap64 (x + 1) = x + 1 := w64 (by omega) (by omega)
    have e2 : wrap64 (x + 1 + 1) = x + 1 + 1 := w64 (by omega) (by omega)
    have e3 : wrap64 (x + 1 + 1 + 1) = x + 1 + 1 + 1 := w64 (by omega) (by omega)
    have e4 : wrap64 (x + 1 + 1 + 1 + 1) = x + 1 + 1 + 1 + 1 := w64 (by omega) (by omega)
    have e5 : wrap64 (x + 1 + 1 + 1 + 1 + 1) = x + 1 + 1 + 1 + 1 + 1 := w64 (by omega) (by omega)
    have e6 : wrap64 (x + 1 + 1 + 1 + 1 + 1 + 1) = x + 1 + 1 + 1 + 1 + 1 + 1 := w64 (by omega) (by omega)
    have e7 : wrap64 ((i : Int) + 1) = ((i + 1 : Nat) : Int) := by rw [w64 (by omega) (by omega)]; omega
    simp only [Option.bind_some, Int.toNat_natCast, hset, hrd, e1, e2, e3, e4, e5, e6, e7, hlen]
    rw [show markedW [l[i]] x ++ l.drop (i + 1) = ⟨x, x + 1, x + 1 + 1, x + 1 + 1 + 1, x + 1 + 1 + 1 + 1, x + 1 + 1 + 1 + 1 + 1⟩ :: l.drop (i + 1) from rfl] at h1
    exact Ev.pos p1 (Ev.pos p2 h1)
theorem markWarning (l : List S40) (hl : l.length ≤ 1048576) : Ev (fun k => laws_markWarningS.f k l 1) (1 + 6 * (l.length : Int), markedW l 1) := by
  unfold laws_markWarningS.f
  have h := markW_l0 l 1 (by omega) (by omega) hl _ 0 rfl (by omega)
  simpa [markedW] using h
theorem heldW_l0 (l : List S40) (a : Int) (ha : 0 ≤ a) (hb : a ≤ 1048576) (hl : l.length ≤ 1048576) : ∀ (d i : Nat), l.length - i = d → i ≤ l.length →
    Ev (fun k => laws_heldWarningS.l0 k (markedW l a) (a + 6 * i) (i : Int)) (a + 6 * l.length) := by
  have hml := markedW_len l a
  intro d
  induction d with
  | zero =>
    intro i hd hi
    obtain rfl : i = l.length := by omega
    refine Ev.step (fun k => by rw [laws_heldWarningS.l0]) ?_
    exact Ev.neg (by omega) (Ev.now _)
  | succ d ih =>
    intro i hd hi
    have h1 := ih (i + 1) (by omega) (by omega)
    rw [show a + 6 * ((i + 1 : Nat) : Int) = a + 6 * (i : Int) + 1 + 1 + 1 + 1 + 1 + 1 by omega] at h1
    refine Ev.step (fun k => by rw [laws_heldWarningS.l0]) ?_
    rw [rdW_lt _ i (by omega), markedW_get]
    have p1 : (i : Int) < (l.length : Int) := by omega
    have p2 : (0 : Int) ≤ (i : Int) := by omega
    obtain ⟨x, hx⟩ : ∃ x, a + 6 * (i : Int) = x := ⟨_, rfl⟩
    rw [hx] at h1 ⊢
    have hx0 : 0 ≤ x ∧ x ≤ 8000000 := by omega
    have e1 : wrap64 (x + 1) = x + 1 := w64 (by omega) (by omega)
    have e2 : wrap64 (x + 1 + 1) = x + 1 + 1 := w64 (by omega) (by omega)
    have e3 : wrap64 (x + 1 + 1 + 1) = x + 1 + 1 + 1 := w64 (by omega) (by omega)
    have e4 : wrap64 (x + 1 + 1 + 1 + 1) = x + 1 + 1 + 1 + 1 := w64 (by omega) (by omega)
    have e5 : wrap64 (x + 1 + 1 + 1 + 1 + 1) = x + 1 + 1 + 1 + 1 + 1 := w64 (by omega) (by omega)
    have e6 : wrap64 (x + 1 + 1 + 1 + 1 + 1 + 1) = x + 1 + 1 + 1 + 1 + 1 + 1 := w64 (by omega) (by omega)
    have e7 : wrap64 ((i : Int) + 1) = ((i + 1 : Nat) : Int) := by rw [w64 (by omega) (by omega)]; omega
    simp only [e1, e2, e3, e4, e5, e6, e7]
    rw [hml]
    refine Ev.pos p1 (Ev.pos p2 ?_)
    simp only [mW, if_true]
    exact h1
theorem heldWarning (l : List S40) (hl : l.length ≤ 1048576) : Ev (fun k => laws_heldWarningS.f k (markedW l 1) 1) (1 + 6 * (l.length : Int)) := by
  unfold laws_heldWarningS.f
  have h := heldW_l0 l 1 (by omega) (by omega) hl _ 0 rfl (by omega)
  simpa using h
end Go.Proofs.Ytlnlabndaikbnaa.Pure

namespace Go.Proofs.Ytlnlabndaikbnaa.Pure
open Go.RowKit Go.Proofs.Ytlnlabndaikbnaa.P Go.Proofs.YtlnlabndaikbnaaW.PrintWords Go.Proofs.YtlnlabndaikbnaaW.PrintLast
set_option linter.unusedVariables false

theorem newConsole (l : List S40) (hl : l.length ≤ 1048576) : ∃ (r : List S40) (b : Bool), Ev (fun k => spec_NewConsole.f k l) (r, ⟨#[]⟩, ⟨#[]⟩, 0, b) ∧ Ev (fun k => impl_NewConsole.f k l) (r, ⟨#[]⟩, ⟨#[]⟩, 0, b) ∧ r.length ≤ 1048576 := by
  unfold spec_NewConsole.f impl_NewConsole.f
  by_cases h : consB l = true
  · refine ⟨l, true, Ev.bind (consS l) (Ev.pos h (Ev.bindc (b := l) ?_ (Ev.now _))), Ev.bind (consI l (by omega)) (Ev.pos h (Ev.bindc (b := l) ?_ (Ev.now _))), hl⟩
    · unfold spec_l28Own.f
      simp only [Option.bind_some, List.length_nil, List.nil_append]
      rw [if_pos (by omega)]
    · unfold slices_Clone_impl_Warning.f
      rw [if_pos (by omega)]
  · exact ⟨[], false, Ev.bind (consS l) (Ev.neg h (Ev.now _)), Ev.bind (consI l (by omega)) (Ev.neg h (Ev.now _)), by simp⟩
theorem FnExactNewConsole (l : List S42) (hm0 : l.length ≤ maxLen) (_ : ∀ z ∈ l, (Lit.int .i64 z.f0).wf = true ∧ (Lit.int .i64 z.f1).wf = true ∧ (Lit.int .i64 z.f2).wf = true ∧ (Lit.int .i64 z.f3).wf = true ∧ (Lit.int .i64 z.f4).wf = true ∧ (Lit.int .i64 z.f5).wf = true) : ∃ k, laws_FnExactNewConsole.f k l = some true := by
  have hm : l.length ≤ 9223372036854775807 := Nat.le_trans hm0 (by decide)
  apply Ev.rounds
  unfold laws_FnExactNewConsole.f
  obtain ⟨t, ht, hl0⟩ := szWarningS l hm
  refine Ev.bindc ht (Ev.cases (fun _ => Ev.now _) (fun ht0 => ?_))
  have hl := hl0 ht0
  have td := toWarningS l hl
  have hlen : (l.map convW).length ≤ 1048576 := by simpa using hl
  obtain ⟨r, b, sp, im, hr⟩ := newConsole (l.map convW) hlen
  have eqC : Ev (fun k => laws_eqConsole.f k r ⟨#[]⟩ ⟨#[]⟩ 0 r ⟨#[]⟩ ⟨#[]⟩ 0) true := by
    unfold laws_eqConsole.f
    exact Ev.bind (eqWarning_refl r (by omega)) (Ev.pos rfl (Ev.bindc (b := true) (by unfold laws_eqLog.f; simp) (Ev.pos rfl (Ev.now _))))
  have mk : Ev (fun k => laws_markConsole.f k r ⟨#[]⟩ ⟨#[]⟩ 0 1) (1 + 6 * (r.length : Int), markedW r 1) := by
    unfold laws_markConsole.f
    exact Ev.bind (markWarning r hr) (Ev.now _)
  have hd : Ev (fun k => laws_heldConsole.f k (markedW r 1) ⟨#[]⟩ ⟨#[]⟩ 0 1) (1 + 6 * (r.length : Int)) := by
    unfold laws_heldConsole.f
    exact Ev.bind (heldWarning r hr) (Ev.neg (by omega) (Ev.now _))
  refine Ev.bind td (Ev.bind sp (Ev.bind td (Ev.bind im (Ev.bind eqC (Ev.pos rfl ?_)))))
  refine Ev.step (fun k => by rw [laws_FnExactNewConsole.j0]) (Ev.neg (by simp) ?_)
  refine Ev.bind td (Ev.bind (eqWarning_refl _ (by omega)) (Ev.pos rfl (Ev.bind (markWarning _ hlen) (Ev.neg (by simp only; omega) (Ev.bind eqC (Ev.pos rfl ?_))))))
  refine Ev.step (fun k => by rw [laws_FnExactNewConsole.j1]) (Ev.neg (by simp) ?_)
  refine Ev.bind mk (Ev.bind hd (Ev.neg (by omega) (Ev.pos rfl (Ev.bind td (Ev.bind im (Ev.bind eqC (Ev.pos rfl ?_)))))))
  refine Ev.step (fun k => by rw [laws_FnExactNewConsole.j2]) (Ev.neg (by simp) ?_)
  exact Ev.bind hd (Ev.neg (by omega) (Ev.pos rfl (Ev.now _)))
end Go.Proofs.Ytlnlabndaikbnaa.Pure
