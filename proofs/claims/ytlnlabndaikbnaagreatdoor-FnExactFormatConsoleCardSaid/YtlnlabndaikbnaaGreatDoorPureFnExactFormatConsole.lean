/- The program's FormatConsole returns what the reference's returns, for all arguments. Conditions: none beyond the given statement's. -/
import Derived.Test.YtlnlabndaikbnaaGreatDoorPx25
import Derived.Test.YtlnlabndaikbnaaGreatDoorPx0
import Derived.Test.YtlnlabndaikbnaaGreatDoorPx11
import Derived.Test.YtlnlabndaikbnaaGreatDoorPx3
import Derived.Test.YtlnlabndaikbnaaGreatDoorPx24
import Derived.Test.YtlnlabndaikbnaaGreatDoorPx20
import Derived.Test.YtlnlabndaikbnaaGreatDoorPx9
import Derived.Test.YtlnlabndaikbnaaGreatDoorPx14
import Derived.Test.YtlnlabndaikbnaaGreatDoorPx12
import Derived.Test.YtlnlabndaikbnaaGreatDoorPx13
import Derived.Test.YtlnlabndaikbnaaGreatDoorPx8
import Derived.Test.YtlnlabndaikbnaaGreatDoorPx7
import Derived.Test.YtlnlabndaikbnaaGreatDoorPx5
import Derived.Test.YtlnlabndaikbnaaGreatDoorPx6
import Derived.Test.YtlnlabndaikbnaaGreatDoorPx18
import Derived.Test.YtlnlabndaikbnaaGreatDoorPx19
import Derived.Test.YtlnlabndaikbnaaGreatDoorPx15
import Derived.Test.YtlnlabndaikbnaaGreatDoorPx16
import Derived.Lib.ItoaLen
import Derived.Test.YtlnlabndaikbnaaGreatDoorPx17
import Derived.Lib.Join
import Derived.Test.YtlnlabndaikbnaaGreatDoorPx23
import Derived.Test.YtlnlabndaikbnaaGreatDoorPx10
/- Small laws on "with enough rounds the function answers r" (Ev) and on wrapping sums; used by every plain law of this seat. -/
namespace Go.Proofs.YtlnlabndaikbnaaGreatDoor.Pure
open Go.RowKit Go.Proofs.YtlnlabndaikbnaaGreatDoorW.PrintWords Go.Proofs.YtlnlabndaikbnaaGreatDoorW.PrintLast

section
variable {α β : Type} {r : α} {f g : Nat → Option α}
theorem Ev.pos {c : Prop} [Decidable c] (h : c) (e : Ev f r) : Ev (fun k => if c then f k else g k) r := e.congr fun _ => if_pos h
theorem Ev.neg {c : Prop} [Decidable c] (h : ¬ c) (e : Ev g r) : Ev (fun k => if c then f k else g k) r := e.congr fun _ => if_neg h
theorem Ev.const {a : Option α} (h : a = some r) : Ev (fun _ => a) r := ⟨0, fun _ _ => h⟩
theorem Ev.bindc {a : Option β} {b : β} {f : Nat → β → Option α} (h : a = some b) (k : Ev (fun n => f n b) r) : Ev (fun n => a.bind (f n)) r := Ev.bind (Ev.const h) k
theorem Ev.eq {r' : α} (h : Ev f r) (e : r = r') : Ev f r' := e ▸ h
theorem Ev.cases {c : Prop} [Decidable c] (h1 : c → Ev f r) (h2 : ¬ c → Ev g r) : Ev (fun k => if c then f k else g k) r := by
  by_cases h : c
  · exact Ev.pos h (h1 h)
  · exact Ev.neg h (h2 h)
end

theorem w64 {x : Int} (h1 : -9223372036854775808 ≤ x) (h2 : x ≤ 9223372036854775807) : wrap64 x = x := by unfold wrap64; omega

theorem rd_lt (l : List Int) (i : Nat) (h : i < l.length) : rd l (i : Int) = l[i] := by simp [rd, h]
theorem take_succ' {α : Type} (l : List α) (i : Nat) (h : i < l.length) : l.take (i + 1) = l.take i ++ [l[i]] := by
  rw [List.take_succ_eq_append_getElem h]
end Go.Proofs.YtlnlabndaikbnaaGreatDoor.Pure

/- The laws' own helpers on lists of warnings: a copy, a size, an equality. -/
namespace Go.Proofs.YtlnlabndaikbnaaGreatDoor.Pure
open Go.RowKit Go.Proofs.YtlnlabndaikbnaaGreatDoor.P Go.Proofs.YtlnlabndaikbnaaGreatDoorW.PrintWords Go.Proofs.YtlnlabndaikbnaaGreatDoorW.PrintLast
set_option linter.unusedVariables false

def convW (z : S78) : S73 := ⟨z.f0, z.f1, z.f2, z.f3, z.f4, z.f5⟩
theorem rdW0_lt (l : List S78) (i : Nat) (h : i < l.length) : rd_T78 l (i : Int) = l[i] := by simp [rd_T78, h]
theorem toWarningS_l0 (l : List S78) (hl : l.length ≤ 1048576) : ∀ (d i : Nat) (o : List S73), l.length - i = d → i ≤ l.length → o.length = l.length → o.take i = (l.map convW).take i →
    Ev (fun k => laws_toWarningS.l0 k l o (i : Int)) (l.map convW) := by
  intro d
  induction d with
  | zero =>
    intro i o hd hi ho ht
    refine Ev.step (fun k => by rw [laws_toWarningS.l0]) ?_
    refine Ev.neg (by omega) (Ev.const ?_)
    have hi' : i = l.length := by omega
    subst hi'
    rw [List.take_of_length_le (by omega), List.take_of_length_le (by simp)] at ht
    rw [ht]
  | succ d ih =>
    intro i o hd hi ho ht
    refine Ev.step (fun k => by rw [laws_toWarningS.l0]) ?_
    refine Ev.pos (by omega) (Ev.pos (by omega) ?_)
    refine Ev.bindc (b := (l[i].f0, l[i].f1, l[i].f2, l[i].f3, l[i].f4, l[i].f5)) (by rw [rdW0_lt l i (by omega)]; rfl) (Ev.pos (by omega) ?_)
    rw [w64 (by omega) (by omega), show (i : Int) + 1 = ((i + 1 : Nat) : Int) from by omega]
    refine ih (i + 1) _ (by omega) (by omega) (by simpa using ho) ?_
    rw [Int.toNat_natCast, take_succ' _ _ (by simp; omega), take_succ' (l.map convW) _ (by simp; omega)]
    rw [List.take_set_of_le (Nat.le_refl i), ht]; simp [convW]
theorem toWarningS (l : List S78) (hl : l.length ≤ 1048576) : Ev (fun k => laws_toWarningS.f k l) (l.map convW) := by
  unfold laws_toWarningS.f
  refine Ev.pos (by omega) (Ev.pos (by omega) ?_)
  exact toWarningS_l0 l hl _ 0 _ rfl (by omega) (by simp) (by simp)
theorem eqWarning_l0 (a : List S73) (hl : a.length ≤ 4611686018427387904) : ∀ (d i : Nat), a.length - i = d → i ≤ a.length → Ev (fun k => laws_eqWarningS.l0 k a a (i : Int)) true := by
  intro d
  induction d with
  | zero =>
    intro i hd hi
    refine Ev.step (fun k => by rw [laws_eqWarningS.l0]) ?_
    exact Ev.neg (by omega) (Ev.now _)
  | succ d ih =>
    intro i hd hi
    refine Ev.step (fun k => by rw [laws_eqWarningS.l0]) ?_
    refine Ev.pos (by omega) (Ev.pos (by omega) (Ev.pos (by omega) ?_))
    refine Ev.bindc (b := true) (by unfold laws_eqWarning.f; simp) (Ev.pos rfl ?_)
    rw [w64 (by omega) (by omega), show (i : Int) + 1 = ((i + 1 : Nat) : Int) from by omega]
    exact ih (i + 1) (by omega) (by omega)
theorem eqWarning_refl (a : List S73) (hl : a.length ≤ 4611686018427387904) : Ev (fun k => laws_eqWarningS.f k a a) true := by
  unfold laws_eqWarningS.f
  exact Ev.pos rfl (eqWarning_l0 a hl _ 0 rfl (by omega))
end Go.Proofs.YtlnlabndaikbnaaGreatDoor.Pure

/- Lists of warnings: what is consistent, and that the program and the reference both say so; the laws' own helpers. -/
namespace Go.Proofs.YtlnlabndaikbnaaGreatDoor.Pure
open Go.RowKit Go.Proofs.YtlnlabndaikbnaaGreatDoor.P Go.Proofs.YtlnlabndaikbnaaGreatDoorW.PrintWords Go.Proofs.YtlnlabndaikbnaaGreatDoorW.PrintLast
set_option linter.unusedVariables false
set_option linter.unusedSimpArgs false

theorem rdW_lt (l : List S73) (i : Nat) (h : i < l.length) : rd_T73 l (i : Int) = l[i] := by simp [rd_T73, h]
theorem l1In_d (x a b : Int) : spec_l1In.f x a b = some (decide (a ≤ x ∧ x ≤ b)) := by
  unfold spec_l1In.f
  by_cases h : x ≥ a
  · rw [if_pos h]; congr 1; simp; omega
  · rw [if_neg h]; congr 1; simp; omega
theorem within_d (x a b : Int) : impl_within.f x a b = some (decide (a ≤ x ∧ x ≤ b)) := by
  unfold impl_within.f
  by_cases h : x ≥ a
  · rw [if_pos h]; congr 1; simp; omega
  · rw [if_neg h]; congr 1; simp; omega
/-- A warning for itself. -/
def GoodW (w : S73) : Prop := (1 ≤ w.f0 ∧ w.f0 ≤ 999) ∧ (1 ≤ w.f1 ∧ w.f1 ≤ 5) ∧ (1 ≤ w.f2 ∧ w.f2 ≤ 3) ∧ (1 ≤ w.f3 ∧ w.f3 ≤ 9) ∧ 0 ≤ w.f4 ∧ w.f4 < w.f5 ∧ w.f5 ≤ 240
instance (w : S73) : Decidable (GoodW w) := by unfold GoodW; infer_instance
def MeetW (a b : S73) : Prop := a.f1 = b.f1 ∧ a.f3 = b.f3 ∧ a.f4 < b.f5 ∧ b.f4 < a.f5
instance (a b : S73) : Decidable (MeetW a b) := by unfold MeetW; infer_instance
theorem goodS_f (w : S73) : spec_l14Good.f w.f0 w.f1 w.f2 w.f3 w.f4 w.f5 = some (decide (GoodW w)) := by
  obtain ⟨x0, x1, x2, x3, x4, x5⟩ := w
  unfold spec_l14Good.f GoodW
  simp only [l1In_d, Option.bind_some, decide_eq_true_eq]
  by_cases h0 : 1 ≤ x0 ∧ x0 ≤ 999
  · rw [if_pos h0]
    by_cases h1 : 1 ≤ x1 ∧ x1 ≤ 5
    · rw [if_pos h1]
      by_cases h2 : 1 ≤ x2 ∧ x2 ≤ 3
      · rw [if_pos h2]
        by_cases h3 : 1 ≤ x3 ∧ x3 ≤ 9
        · rw [if_pos h3]
          by_cases h4 : 1 ≤ x5 ∧ x5 ≤ 240
          · rw [if_pos h4, w64 (x := x5 - 1) (by omega) (by omega)]; congr 1; exact decide_eq_decide.mpr (by omega)
          · rw [if_neg h4]; congr 1; exact (decide_eq_false (by omega)).symm
        · rw [if_neg h3]; congr 1; exact (decide_eq_false (by omega)).symm
      · rw [if_neg h2]; congr 1; exact (decide_eq_false (by omega)).symm
    · rw [if_neg h1]; congr 1; exact (decide_eq_false (by omega)).symm
  · rw [if_neg h0]; congr 1; exact (decide_eq_false (by omega)).symm
theorem goodI_f (w : S73) : impl_IsValidWarning.f w.f0 w.f1 w.f2 w.f3 w.f4 w.f5 = some (decide (GoodW w)) := by
  obtain ⟨x0, x1, x2, x3, x4, x5⟩ := w
  unfold impl_IsValidWarning.f GoodW
  simp only [within_d, Option.bind_some, decide_eq_true_eq]
  by_cases h0 : 1 ≤ x0 ∧ x0 ≤ 999
  · rw [if_pos h0]
    by_cases h1 : 1 ≤ x1 ∧ x1 ≤ 5
    · rw [if_pos h1]
      by_cases h2 : 1 ≤ x2 ∧ x2 ≤ 3
      · rw [if_pos h2]
        by_cases h3 : 1 ≤ x3 ∧ x3 ≤ 9
        · rw [if_pos h3]
          by_cases h4 : x4 ≥ 0
          · rw [if_pos h4]
            by_cases h5 : x4 < x5
            · rw [if_pos h5]; congr 1; exact decide_eq_decide.mpr (by omega)
            · rw [if_neg h5]; congr 1; exact (decide_eq_false (by omega)).symm
          · rw [if_neg h4]; congr 1; exact (decide_eq_false (by omega)).symm
        · rw [if_neg h3]; congr 1; exact (decide_eq_false (by omega)).symm
      · rw [if_neg h2]; congr 1; exact (decide_eq_false (by omega)).symm
    · rw [if_neg h1]; congr 1; exact (decide_eq_false (by omega)).symm
  · rw [if_neg h0]; congr 1; exact (decide_eq_false (by omega)).symm
theorem meetS_f (a b : S73) : spec_l14Meet.f a.f0 a.f1 a.f2 a.f3 a.f4 a.f5 b.f0 b.f1 b.f2 b.f3 b.f4 b.f5 = some (decide (MeetW a b)) := by
  unfold spec_l14Meet.f MeetW
  by_cases h1 : a.f1 = b.f1
  · rw [if_pos h1]
    by_cases h2 : a.f3 = b.f3
    · rw [if_pos h2]
      by_cases h3 : a.f4 < b.f5
      · rw [if_pos h3]; congr 1; exact decide_eq_decide.mpr (by omega)
      · rw [if_neg h3]; congr 1; exact (decide_eq_false (by omega)).symm
    · rw [if_neg h2]; congr 1; exact (decide_eq_false (by omega)).symm
  · rw [if_neg h1]; congr 1; exact (decide_eq_false (by omega)).symm
theorem meetI_f (a b : S73) : meetP a.f0 a.f1 a.f2 a.f3 a.f4 a.f5 b = decide (MeetW a b) := by
  have h : impl_doMeet.f a.f0 a.f1 a.f2 a.f3 a.f4 a.f5 b.f0 b.f1 b.f2 b.f3 b.f4 b.f5 = some (decide (MeetW a b)) := meetS_f a b
  unfold meetP
  rw [h]; rfl
theorem meet_comm (a b : S73) : MeetW a b ↔ MeetW b a := by unfold MeetW; omega
/-- The warning at a place is good, comes behind the one before it, and meets none before it. -/
def OkAt (l : List S73) (i : Nat) (h : i < l.length) : Prop := GoodW l[i] ∧ (∀ hp : 0 < i, (l[i - 1]'(by omega)).f0 < l[i].f0) ∧ ∀ k (hk : k < i), ¬ MeetW (l[k]'(by omega)) l[i]
def Cons (l : List S73) : Prop := l.length ≤ 12 ∧ ∀ i (h : i < l.length), OkAt l i h
open Classical in
noncomputable def consB (l : List S73) : Bool := decide (Cons l)
theorem consB_true {l : List S73} : consB l = true ↔ Cons l := by unfold consB; simp
theorem consB_not {l : List S73} (h : ¬ Cons l) : consB l = false := by
  cases e : consB l with
  | false => rfl
  | true => exact absurd (consB_true.1 e) h
/-! ### the reference -/
theorem listS_l1 (l : List S73) (hl : l.length ≤ 12) (i : Nat) (hi : i < l.length) (r : Bool) (hno : (∃ k, ∃ hk : k < i, MeetW (l[k]'(by omega)) l[i]) → r = false) (hyes : (∀ k (hk : k < i), ¬ MeetW (l[k]'(by omega)) l[i]) → Ev (fun n => spec_l14List.l0 n l ((i + 1 : Nat) : Int)) r) :
    ∀ (d j : Nat) (_ : i - j = d) (hj : j ≤ i), (∀ k (hk : k < j), ¬ MeetW (l[k]'(by omega)) l[i]) → Ev (fun n => spec_l14List.l1 n l (i : Int) (j : Int)) r := by
  intro d
  induction d with
  | zero =>
    intro j hd hj hall
    obtain rfl : j = i := by omega
    refine Ev.step (fun k => by rw [spec_l14List.l1]) ?_
    rw [w64 (x := (j : Int) + 1) (by omega) (by omega), show (j : Int) + 1 = ((j + 1 : Nat) : Int) from by omega]
    exact Ev.neg (by omega) (hyes hall)
  | succ d ih =>
    intro j hd hj hall
    have hlt : j < i := by omega
    refine Ev.step (fun k => by rw [spec_l14List.l1]) ?_
    rw [rdW_lt l j (by omega), rdW_lt l i hi, w64 (x := (j : Int) + 1) (by omega) (by omega), show (j : Int) + 1 = ((j + 1 : Nat) : Int) from by omega]
    refine Ev.pos (by omega) (Ev.pos (by omega) (Ev.pos (by omega) (Ev.pos (by omega) (Ev.pos (by omega) (Ev.bindc (meetS_f _ _) (Ev.cases (fun h => ?_) (fun h => ?_)))))))
    · rw [hno ⟨j, hlt, of_decide_eq_true h⟩]; exact Ev.now _
    · refine ih (j + 1) (by omega) (by omega) (fun k hk => ?_)
      by_cases e : k = j
      · subst e; exact fun hm => h (decide_eq_true hm)
      · exact hall k (by omega)
theorem listS_l0 (l : List S73) (hl : l.length ≤ 12) : ∀ (d i : Nat), l.length - i = d → i ≤ l.length → (∀ j (hj : j < i) (h : j < l.length), OkAt l j h) →
    Ev (fun k => spec_l14List.l0 k l (i : Int)) (consB l) := by
  intro d
  induction d with
  | zero =>
    intro i hd hi hall
    refine Ev.step (fun k => by rw [spec_l14List.l0]) ?_
    refine Ev.neg (by omega) (Ev.const ?_)
    rw [consB_true.2 ⟨hl, fun j h => hall j (by omega) h⟩]
  | succ d ih =>
    intro i hd hi hall
    have hlt : i < l.length := by omega
    have hbad : ¬ OkAt l i hlt → consB l = false := fun h => consB_not (fun hC => h (hC.2 i hlt))
    have hj : ∀ b : Bool, (b = true → ¬ OkAt l i hlt) → (b = false → GoodW l[i] ∧ ∀ hp : 0 < i, (l[i - 1]'(by omega)).f0 < l[i].f0) → Ev (fun k => spec_l14List.j1 k l (i : Int) b) (consB l) := fun b hb1 hb2 => by
      refine Ev.step (fun k => by rw [spec_l14List.j1]) ?_
      cases b with
      | true => rw [hbad (hb1 rfl)]; exact Ev.pos rfl (Ev.now _)
      | false =>
        have hg := hb2 rfl
        refine Ev.neg (by simp) (listS_l1 l hl i hlt _ (fun ⟨k, hk, hm⟩ => hbad (fun hO => hO.2.2 k hk hm)) (fun hn => ih (i + 1) (by omega) (by omega) (fun j hj h => ?_)) _ 0 rfl (by omega) (fun k hk => absurd hk (Nat.not_lt_zero _)))
        by_cases e : j = i
        · subst e; exact ⟨hg.1, hg.2, hn⟩
        · exact hall j (by omega) h
    refine Ev.step (fun k => by rw [spec_l14List.l0]) ?_
    rw [rdW_lt l i hlt]
    refine Ev.pos (by omega) (Ev.pos (by omega) (Ev.bindc (goodS_f _) (Ev.cases (fun h1 => ?_) (fun h1 => ?_))))
    · have h1 := of_decide_eq_true h1
      refine Ev.cases (fun hp => ?_) (fun hp => hj false (fun h => by cases h) (fun _ => ⟨h1, fun h => by omega⟩))
      have ew : wrap64 ((i : Int) - 1) = ((i - 1 : Nat) : Int) := by rw [w64 (by omega) (by omega)]; omega
      rw [ew, rdW_lt l (i - 1) (by omega)]
      refine Ev.pos (by omega) (Ev.pos (by omega) (hj _ (fun h hO => ?_) (fun h => ⟨h1, fun _ => ?_⟩)))
      · have := hO.2.1 (by omega); have := of_decide_eq_true h; omega
      · have := of_decide_eq_false h; omega
    · exact hj true (fun _ hO => h1 (decide_eq_true hO.1)) (fun h => by cases h)
theorem consS (l : List S73) : Ev (fun k => spec_l14List.f k l) (consB l) := by
  unfold spec_l14List.f
  refine Ev.cases (fun h => ?_) (fun h => listS_l0 l (by omega) _ 0 rfl (by omega) (fun j hj => absurd hj (Nat.not_lt_zero _)))
  rw [consB_not (fun hC => by have := hC.1; omega)]; exact Ev.now _
/-! ### the program -/
def AreW (l : List S73) : Prop := l.length ≤ 12 ∧ ∀ i (h : i < l.length), GoodW l[i] ∧ ∀ hp : 0 < i, (l[i - 1]'(by omega)).f0 < l[i].f0
open Classical in
theorem areI_l0 (l : List S73) (hl : l.length ≤ 1048577) : ∀ (d i : Nat), l.length - i = d → i ≤ l.length → (∀ j (hj : j < i) (h : j < l.length), GoodW l[j] ∧ ∀ hp : 0 < j, (l[j - 1]'(by omega)).f0 < l[j].f0) →
    Ev (fun k => impl_areWarnings.l0 k l l (l.length : Int) (i : Int)) (decide (AreW l)) := by
  intro d
  induction d with
  | zero =>
    intro i hd hi hall
    refine Ev.step (fun k => by rw [impl_areWarnings.l0]) ?_
    refine Ev.neg (by omega) (Ev.const ?_)
    congr 1
    exact decide_eq_decide.mpr ⟨fun h => ⟨by omega, fun j hj => hall j (by omega) hj⟩, fun h => by have := h.1; omega⟩
  | succ d ih =>
    intro i hd hi hall
    have hlt : i < l.length := by omega
    have hnext : GoodW l[i] → (∀ hp : 0 < i, (l[i - 1]'(by omega)).f0 < l[i].f0) → Ev (fun k => impl_areWarnings.l0 k l l (l.length : Int) ((i + 1 : Nat) : Int)) (decide (AreW l)) := fun h1 h2 => ih (i + 1) (by omega) (by omega) (fun j hj h => by
      by_cases e : j = i
      · subst e; exact ⟨h1, h2⟩
      · exact hall j (by omega) h)
    refine Ev.step (fun k => by rw [impl_areWarnings.l0]) ?_
    rw [rdW_lt l i hlt, w64 (x := (i : Int) + 1) (by omega) (by omega), show (i : Int) + 1 = ((i + 1 : Nat) : Int) from by omega]
    refine Ev.pos (by omega) (Ev.pos (by omega) (Ev.pos (by omega) (Ev.bindc (goodI_f _) (Ev.cases (fun h1 => ?_) (fun h1 => Ev.const ?_)))))
    · have h1 := of_decide_eq_true h1
      refine Ev.cases (fun hp => ?_) (fun hp => hnext h1 (fun h => by omega))
      have ew : wrap64 ((i : Int) - 1) = ((i - 1 : Nat) : Int) := by rw [w64 (by omega) (by omega)]; omega
      rw [ew, rdW_lt l (i - 1) (by omega)]
      refine Ev.pos (by omega) (Ev.pos (by omega) (Ev.cases (fun h2 => Ev.const ?_) (fun h2 => hnext h1 (fun _ => by omega))))
      rw [decide_eq_false (fun hA => by have := (hA.2 i hlt).2 (by omega); omega)]
    · rw [decide_eq_false (fun hA => h1 (decide_eq_true (hA.2 i hlt).1))]
open Classical in
theorem areI (l : List S73) (hl : l.length ≤ 1048577) : Ev (fun k => impl_areWarnings.f k l) (decide (AreW l)) := by
  unfold impl_areWarnings.f
  exact areI_l0 l hl _ 0 rfl (by omega) (fun j hj => absurd hj (Nat.not_lt_zero _))
theorem consI_l0 (l : List S73) (hA : AreW l) : ∀ (d i : Nat), l.length - i = d → i ≤ l.length → (∀ j (hj : j < i) (h : j < l.length), OkAt l j h) →
    Ev (fun k => impl_IsConsistent.l0 k l l (l.length : Int) (i : Int)) (consB l) := by
  have hl := hA.1
  intro d
  induction d with
  | zero =>
    intro i hd hi hall
    refine Ev.step (fun k => by rw [impl_IsConsistent.l0]) ?_
    refine Ev.neg (by omega) (Ev.const ?_)
    rw [consB_true.2 ⟨hl, fun j h => hall j (by omega) h⟩]
  | succ d ih =>
    intro i hd hi hall
    have hlt : i < l.length := by omega
    refine Ev.step (fun k => by rw [impl_IsConsistent.l0]) ?_
    rw [rdW_lt l i hlt, w64 (x := (i : Int) + 1) (by omega) (by omega), show (i : Int) + 1 = ((i + 1 : Nat) : Int) from by omega, Int.toNat_natCast]
    refine Ev.pos (by omega) (Ev.pos (by omega) (Ev.pos (by omega) (Ev.pos (by omega) (Ev.bindc (b := (l.take i).any fun o => meetP l[i].f0 l[i].f1 l[i].f2 l[i].f3 l[i].f4 l[i].f5 o) rfl (Ev.cases (fun h => ?_) (fun h => ?_))))))
    · obtain ⟨x, hx, hm⟩ := List.any_eq_true.1 h
      rw [meetI_f] at hm
      obtain ⟨k, hk, rfl⟩ := List.getElem_of_mem hx
      have hk2 : k < i := by simp at hk; omega
      rw [consB_not (fun hC => (hC.2 i hlt).2.2 k hk2 ((meet_comm _ _).1 (by simpa using hm)))]
      exact Ev.now _
    · refine ih (i + 1) (by omega) (by omega) (fun j hj h2 => ?_)
      by_cases e : j = i
      · subst e
        refine ⟨(hA.2 j hlt).1, (hA.2 j hlt).2, fun k hk hm => h (List.any_eq_true.2 ⟨l[k], ?_, ?_⟩)⟩
        · rw [List.mem_iff_getElem]; exact ⟨k, by simp; omega, by simp⟩
        · rw [meetI_f]; exact decide_eq_true ((meet_comm _ _).1 hm)
      · exact hall j (by omega) h2
open Classical in
theorem consI (l : List S73) (hl : l.length ≤ 1048577) : Ev (fun k => impl_IsConsistent.f k l) (consB l) := by
  unfold impl_IsConsistent.f
  refine Ev.bind (areI l hl) (Ev.cases (fun h => ?_) (fun h => ?_))
  · exact consI_l0 l (of_decide_eq_true h) _ 0 rfl (by omega) (fun j hj => absurd hj (Nat.not_lt_zero _))
  · rw [consB_not (fun hC => h (decide_eq_true ⟨hC.1, fun i hi => ⟨(hC.2 i hi).1, (hC.2 i hi).2.1⟩⟩))]
    exact Ev.now _
end Go.Proofs.YtlnlabndaikbnaaGreatDoor.Pure

/- Texts as lists of bytes: joins, cuts, single bytes, equality. -/
namespace Go.Proofs.YtlnlabndaikbnaaGreatDoor.Pure
open Go.RowKit Go.Proofs.YtlnlabndaikbnaaGreatDoor.P Go.Proofs.YtlnlabndaikbnaaGreatDoorW.PrintWords Go.Proofs.YtlnlabndaikbnaaGreatDoorW.PrintLast

def bs (s : ByteArray) : List UInt8 := s.data.toList
theorem bs_size (s : ByteArray) : (bs s).length = s.size := by rw [bs, Array.length_toList]; rfl
theorem bs_inj {s t : ByteArray} (h : bs s = bs t) : s = t := by
  cases s; cases t; simp [bs] at h; rw [h]
theorem bs_mk (l : List UInt8) : bs ⟨l.toArray⟩ = l := by simp [bs]
theorem mk_bs (s : ByteArray) : (⟨(bs s).toArray⟩ : ByteArray) = s := bs_inj (bs_mk _)
theorem bs_append (s t : ByteArray) : bs (s ++ t) = bs s ++ bs t := by simp [bs]
theorem bs_extract (s : ByteArray) (i j : Nat) : bs (s.extract i j) = ((bs s).drop i).take (j - i) := by simp [bs, List.take_drop]
theorem toList_bs (s : ByteArray) : s.toList = bs s := ByteArray.toList_eq s
theorem size_mk (l : List UInt8) : (⟨l.toArray⟩ : ByteArray).size = l.length := by rw [← bs_size, bs_mk]
theorem bt_bs (s : ByteArray) (i : Nat) (h : i < (bs s).length) : bt s (i : Int) = (((bs s)[i]).toNat : Int) := by
  have h2 : ((i : Int)).toNat < s.size := by rw [bs_size] at h; simpa using h
  rw [← bt_at s (i : Int) h2]
  simp [bs]
  rfl
theorem l1In_f (x a b : Int) : spec_l1In.f x a b = some (decide (a ≤ x) && decide (x ≤ b)) := by
  unfold spec_l1In.f
  by_cases h : x ≥ a
  · simp [h]
  · simp [h]
theorem within_f (x a b : Int) : impl_within.f x a b = some (decide (a ≤ x) && decide (x ≤ b)) := by
  unfold impl_within.f
  by_cases h : x ≥ a
  · simp [h]
  · simp [h]

end Go.Proofs.YtlnlabndaikbnaaGreatDoor.Pure

/- Cuts at a byte; the parts of a text. -/
namespace Go.Proofs.YtlnlabndaikbnaaGreatDoor.Pure
open Go.RowKit Go.Proofs.YtlnlabndaikbnaaGreatDoor.P Go.Proofs.YtlnlabndaikbnaaGreatDoorW.PrintWords Go.Proofs.YtlnlabndaikbnaaGreatDoorW.PrintLast

/-! ### where a byte stands -/
theorem span_at (x : UInt8) : ∀ l : List UInt8, x ∈ l → ∃ a t, l = a ++ x :: t ∧ ∀ b ∈ a, b ≠ x
  | [], h => by simp at h
  | y :: l, h => by
    by_cases e : y = x
    · exact ⟨[], l, by simp [e], by simp⟩
    · obtain ⟨a, t, h1, h2⟩ := span_at x l (by simpa [Ne.symm e] using h)
      exact ⟨y :: a, t, by simp [h1], by simpa [e] using h2⟩
/-- A text is cut at the first such byte in one way alone. -/
theorem span_inj {x : UInt8} : ∀ {a a' t t' : List UInt8}, (∀ b ∈ a, b ≠ x) → (∀ b ∈ a', b ≠ x) → a ++ x :: t = a' ++ x :: t' → a = a' ∧ t = t'
  | [], [], t, t', _, _, h => by simpa using h
  | [], y :: a', t, t', _, h2, h => by
    have h3 : x = y := by simpa using (List.cons.inj h).1
    exact absurd h3.symm (h2 y (by simp))
  | y :: a, [], t, t', h1, _, h => by
    have h3 : y = x := by simpa using (List.cons.inj h).1
    exact absurd h3 (h1 y (by simp))
  | y :: a, z :: a', t, t', h1, h2, h => by
    obtain ⟨e, h⟩ := List.cons.inj h
    obtain ⟨e2, e3⟩ := span_inj (fun b hb => h1 b (by simp [hb])) (fun b hb => h2 b (by simp [hb])) h
    exact ⟨by rw [e, e2], e3⟩
theorem indexByte_hit (x : UInt8) : ∀ (a t : List UInt8), (∀ b ∈ a, b ≠ x) → Lib.indexByte (a ++ x :: t) x = (a.length : Int)
  | [], t, _ => by simp [Lib.indexByte]
  | y :: a, t, h => by
    have ih := indexByte_hit x a t (fun b hb => h b (by simp [hb]))
    have h1 : (y == x) = false := by simpa using h y (by simp)
    simp only [List.cons_append, Lib.indexByte, h1, ih, List.length_cons]
    rw [if_neg (by simp), if_neg (by simp)]
    first | omega | simp
theorem indexByte_miss (x : UInt8) : ∀ (a : List UInt8), (∀ b ∈ a, b ≠ x) → Lib.indexByte a x = -1
  | [], _ => rfl
  | y :: a, h => by
    have ih := indexByte_miss x a (fun b hb => h b (by simp [hb]))
    have h1 : (y == x) = false := by simpa using h y (by simp)
    simp only [Lib.indexByte, h1, ih]
    simp
theorem index_f (s : ByteArray) (x : UInt8) : stringslite_Index.f s ⟨#[x]⟩ = some (Lib.indexByte (bs s) x) := by
  unfold stringslite_Index.f
  rw [if_pos (show (⟨#[x]⟩ : ByteArray).size = 1 from rfl)]; rfl
theorem cut_hit {s : ByteArray} {x : UInt8} {a t : List UInt8} (hs : s.size ≤ 4611686018427387904) (h : bs s = a ++ x :: t) (ha : ∀ b ∈ a, b ≠ x) :
    strings_Cut.f s ⟨#[x]⟩ = some (⟨a.toArray⟩, ⟨t.toArray⟩, true) := by
  have hl : (bs s).length = a.length + t.length + 1 := by rw [h]; simp; omega
  rw [bs_size] at hl
  unfold strings_Cut.f stringslite_Cut.f
  rw [index_f, h, indexByte_hit x a t ha]
  simp only [Option.bind_some]
  rw [show ((⟨#[x]⟩ : ByteArray).size : Int) = 1 from rfl, w64 (by omega) (by omega), if_pos (by omega), if_pos (by omega), if_pos (by omega), if_pos (by omega), if_pos (by omega)]
  simp only [Option.bind_some, Option.some.injEq, Prod.mk.injEq, and_true]
  constructor
  · apply bs_inj
    rw [bs_extract, bs_mk a, h]
    simp
  · apply bs_inj
    rw [bs_extract, bs_mk t, h, show ((a.length : Int) + 1).toNat = a.length + 1 from by omega, show a ++ x :: t = (a ++ [x]) ++ t from by simp, List.drop_append_of_le_length (by simp)]
    rw [List.drop_of_length_le (by simp), List.nil_append]
    exact List.take_of_length_le (by omega)
theorem cut_miss {s : ByteArray} {x : UInt8} (h : ∀ b ∈ bs s, b ≠ x) : strings_Cut.f s ⟨#[x]⟩ = some (s, ⟨#[]⟩, false) := by
  unfold strings_Cut.f stringslite_Cut.f
  rw [index_f, indexByte_miss x _ h]
  simp only [Option.bind_some]
  rw [if_neg (by omega)]; rfl

/-! ### the reference's parts of a text: their first -/
theorem split_more (s : ByteArray) (x : Int) (hs : s.size ≤ 1073741824) : ∀ (d i from_ : Nat) (o : List ByteArray), s.size - i = d → i ≤ s.size → from_ ≤ i → o.length ≤ i →
    ∃ t : List ByteArray, 1 ≤ t.length ∧ Ev (fun k => spec_l1Split.l0 k s x o (from_ : Int) (i : Int)) (o ++ t) := by
  intro d
  induction d with
  | zero =>
    intro i f o hd hi hf ho
    refine ⟨[s.extract f s.size], by simp, Ev.step (fun k => by rw [spec_l1Split.l0]) ?_⟩
    exact Ev.neg (by omega) (Ev.pos (by omega) (Ev.pos (by omega) (Ev.pos (by omega) (Ev.const (by rw [Int.toNat_natCast])))))
  | succ d ih =>
    intro i f o hd hi hf ho
    by_cases hx : bt s (i : Int) = x
    · obtain ⟨t, ht, e⟩ := ih (i + 1) (i + 1) (o ++ [s.extract f i]) (by omega) (by omega) (by omega) (by simp; omega)
      refine ⟨s.extract f i :: t, by simp, Ev.step (fun k => by rw [spec_l1Split.l0]) ?_⟩
      refine Ev.pos (by omega) (Ev.pos (by omega) (Ev.pos hx (Ev.pos (by omega) (Ev.pos (by omega) (Ev.pos (by omega) (Ev.pos (by omega) ?_))))))
      rw [w64 (by omega) (by omega), Int.toNat_natCast, Int.toNat_natCast, show (i : Int) + 1 = ((i + 1 : Nat) : Int) from by omega]
      exact Ev.eq e (by simp)
    · obtain ⟨t, ht, e⟩ := ih (i + 1) f o (by omega) (by omega) (by omega) (by omega)
      refine ⟨t, ht, Ev.step (fun k => by rw [spec_l1Split.l0]) ?_⟩
      refine Ev.pos (by omega) (Ev.pos (by omega) (Ev.neg hx ?_))
      rw [w64 (by omega) (by omega), show (i : Int) + 1 = ((i + 1 : Nat) : Int) from by omega]
      exact e
theorem split_hit (s : ByteArray) (x : UInt8) (hs : s.size ≤ 1073741824) (a t : List UInt8) (h : bs s = a ++ x :: t) (ha : ∀ b ∈ a, b ≠ x) : ∀ (d i : Nat), a.length - i = d → i ≤ a.length →
    ∃ l : List ByteArray, 1 ≤ l.length ∧ Ev (fun k => spec_l1Split.l0 k s (x.toNat : Int) [] 0 (i : Int)) ((⟨a.toArray⟩ : ByteArray) :: l) := by
  have hl : (bs s).length = a.length + t.length + 1 := by rw [h]; simp; omega
  have hl2 := bs_size s
  intro d
  induction d with
  | zero =>
    intro i hd hi
    have hi' : i = a.length := by omega
    obtain ⟨l, h1, e⟩ := split_more s (x.toNat : Int) hs _ (i + 1) (i + 1) [s.extract 0 i] rfl (by omega) (by omega) (by simp)
    refine ⟨l, h1, Ev.step (fun k => by rw [spec_l1Split.l0]) ?_⟩
    have hb : bt s (i : Int) = (x.toNat : Int) := by
      rw [bt_bs s i (by omega)]
      simp [h, hi']
    refine Ev.pos (by omega) (Ev.pos (by omega) (Ev.pos hb (Ev.pos (by omega) (Ev.pos (by omega) (Ev.pos (by omega) (Ev.pos (by simp) ?_))))))
    rw [w64 (by omega) (by omega), Int.toNat_natCast, show (i : Int) + 1 = ((i + 1 : Nat) : Int) from by omega]
    refine Ev.eq e ?_
    rw [show s.extract 0 i = ⟨a.toArray⟩ from bs_inj (by rw [bs_extract, bs_mk a, h, hi']; simp)]
    rfl
  | succ d ih =>
    intro i hd hi
    obtain ⟨l, h1, e⟩ := ih (i + 1) (by omega) (by omega)
    refine ⟨l, h1, Ev.step (fun k => by rw [spec_l1Split.l0]) ?_⟩
    have hb : ¬ bt s (i : Int) = (x.toNat : Int) := by
      rw [bt_bs s i (by omega)]
      have h2 : (bs s)[i]'(by omega) = a[i]'(by omega) := by simp [h, List.getElem_append_left (show i < a.length by omega)]
      rw [h2]
      intro e
      have e2 : (a[i]'(by omega)).toNat = x.toNat := by omega
      exact ha _ (List.getElem_mem _) (UInt8.toNat_inj.mp e2)
    refine Ev.pos (by omega) (Ev.pos (by omega) (Ev.neg hb ?_))
    rw [w64 (by omega) (by omega), show (i : Int) + 1 = ((i + 1 : Nat) : Int) from by omega]
    exact e
theorem split_miss (s : ByteArray) (x : UInt8) (hs : s.size ≤ 1073741824) (ha : ∀ b ∈ bs s, b ≠ x) : ∀ (d i : Nat), s.size - i = d → i ≤ s.size →
    Ev (fun k => spec_l1Split.l0 k s (x.toNat : Int) [] 0 (i : Int)) [s] := by
  have hl2 := bs_size s
  intro d
  induction d with
  | zero =>
    intro i hd hi
    refine Ev.step (fun k => by rw [spec_l1Split.l0]) ?_
    refine Ev.neg (by omega) (Ev.pos (by omega) (Ev.pos (by omega) (Ev.pos (by simp) (Ev.const ?_))))
    rw [show s.extract (0 : Int).toNat s.size = s from bs_inj (by rw [bs_extract]; simp [hl2, List.take_of_length_le])]
    rfl
  | succ d ih =>
    intro i hd hi
    refine Ev.step (fun k => by rw [spec_l1Split.l0]) ?_
    have hb : ¬ bt s (i : Int) = (x.toNat : Int) := by
      rw [bt_bs s i (by omega)]
      intro e
      have e2 : ((bs s)[i]'(by omega)).toNat = x.toNat := by omega
      exact ha _ (List.getElem_mem _) (UInt8.toNat_inj.mp e2)
    refine Ev.pos (by omega) (Ev.pos (by omega) (Ev.neg hb ?_))
    rw [w64 (by omega) (by omega), show (i : Int) + 1 = ((i + 1 : Nat) : Int) from by omega]
    exact ih (i + 1) (by omega) (by omega)
/-- The parts of a text: the first ends at the first such byte. -/
theorem l1Split_hit {s : ByteArray} {x : UInt8} (hs : s.size ≤ 1073741824) {a t : List UInt8} (h : bs s = a ++ x :: t) (ha : ∀ b ∈ a, b ≠ x) :
    ∃ l : List ByteArray, 1 ≤ l.length ∧ Ev (fun k => spec_l1Split.f k s (x.toNat : Int)) ((⟨a.toArray⟩ : ByteArray) :: l) := by
  obtain ⟨l, h1, e⟩ := split_hit s x hs a t h ha _ 0 rfl (by omega)
  exact ⟨l, h1, by unfold spec_l1Split.f; exact e⟩
theorem l1Split_miss {s : ByteArray} {x : UInt8} (hs : s.size ≤ 1073741824) (ha : ∀ b ∈ bs s, b ≠ x) : Ev (fun k => spec_l1Split.f k s (x.toNat : Int)) [s] := by
  unfold spec_l1Split.f
  exact split_miss s x hs ha _ 0 rfl (by omega)
end Go.Proofs.YtlnlabndaikbnaaGreatDoor.Pure

/- Log records: the tests of the program and of the reference. -/
namespace Go.Proofs.YtlnlabndaikbnaaGreatDoor.Pure
open Go.RowKit Go.Proofs.YtlnlabndaikbnaaGreatDoor.P Go.Proofs.YtlnlabndaikbnaaGreatDoorW.PrintWords Go.Proofs.YtlnlabndaikbnaaGreatDoorW.PrintLast

def plainB (l : List UInt8) : Bool := l.all fun b => decide (32 ≤ b.toNat) && decide (b.toNat ≤ 126)
theorem containsAny_any (cs : List UInt8) : ∀ l : List UInt8, Lib.containsAny l cs = l.any fun b => cs.contains b
  | [] => rfl
  | b :: l => by
    have ih := containsAny_any cs l
    have h0 := Lib.indexAny_ge cs l
    unfold Lib.containsAny at ih ⊢
    rw [List.any_cons, ← ih, Lib.indexAny]
    cases hc : cs.contains b
    · rw [if_neg (by simp), Bool.false_or]
      by_cases h : Lib.indexAny l cs = -1
      · rw [h]; rfl
      · rw [if_neg (by simpa using h)]
        exact decide_eq_decide.mpr (by omega)
    · rw [if_pos rfl, Bool.true_or]; rfl
theorem plain_ascii {s : ByteArray} (h : plainB (bs s) = true) : asciiB s = true := by
  refine List.all_eq_true.mpr fun b hb => ?_
  have := List.all_eq_true.mp h b hb
  simp only [Bool.and_eq_true, decide_eq_true_eq] at this ⊢
  omega
theorem isPrinted_l0 (s w : ByteArray) (hs : s.size < 4294967281) (hw : asciiB w = true) (hw2 : w.size < 4294967281) : ∀ (d i : Nat), s.size - i = d → i ≤ s.size → plainB ((bs s).take i) = true →
    Ev (fun k => impl_isPrinted.l0 k s w (i : Int)) (plainB ((bs s).drop i) && !(bs s).any fun b => (bs w).contains b) := by
  have hl := bs_size s
  intro d
  induction d with
  | zero =>
    intro i hd hi hp
    rw [List.take_of_length_le (by omega)] at hp
    refine Ev.step (fun k => by rw [impl_isPrinted.l0]) ?_
    refine Ev.neg (by omega) (Ev.bindc (b := (bs s).any fun b => (bs w).contains b) ?_ (Ev.const ?_))
    · unfold strings_ContainsAny.f
      rw [if_pos (by rw [plain_ascii hp, hw]; simp; omega)]
      exact congrArg some (containsAny_any _ _)
    · rw [List.drop_of_length_le (by omega)]; rfl
  | succ d ih =>
    intro i hd hi hp
    have hb := bt_bs s i (by omega)
    have hc : (bs s).drop i = (bs s)[i]'(by omega) :: (bs s).drop (i + 1) := List.drop_eq_getElem_cons (by omega)
    refine Ev.step (fun k => by rw [impl_isPrinted.l0]) ?_
    refine Ev.pos (by omega) (Ev.pos (by omega) ?_)
    rw [hc, hb, w64 (by omega) (by omega), show (i : Int) + 1 = ((i + 1 : Nat) : Int) from by omega]
    have e1 : plainB ((bs s)[i]'(by omega) :: (bs s).drop (i + 1)) = ((decide (32 ≤ ((bs s)[i]'(by omega)).toNat) && decide (((bs s)[i]'(by omega)).toNat ≤ 126)) && plainB ((bs s).drop (i + 1))) := List.all_cons
    refine Ev.cases (fun h => ?_) (fun h => Ev.cases (fun h2 => ?_) (fun h2 => ?_))
    · exact Ev.const (by rw [e1, decide_eq_false (by omega)]; rfl)
    · exact Ev.const (by rw [e1, decide_eq_false (show ¬ ((bs s)[i]'(by omega)).toNat ≤ 126 by omega), Bool.and_false]; rfl)
    · refine Ev.eq (ih (i + 1) (by omega) (by omega) ?_) ?_
      · rw [List.take_succ_eq_append_getElem (by omega)]
        unfold plainB at hp ⊢
        rw [List.all_append, hp]
        simp only [List.all_cons, List.all_nil, Bool.and_true, Bool.true_and, Bool.and_eq_true, decide_eq_true_eq]
        omega
      · rw [e1, decide_eq_true (by omega), decide_eq_true (by omega)]; rfl
theorem isPrinted (s w : ByteArray) (hs : s.size < 4294967281) (hw : asciiB w = true) (hw2 : w.size < 4294967281) : Ev (fun k => impl_isPrinted.f k s w) (plainB (bs s) && !(bs s).any fun b => (bs w).contains b) := by
  unfold impl_isPrinted.f
  exact isPrinted_l0 s w hs hw hw2 _ 0 rfl (by omega) rfl
def cmdB (c : List UInt8) : Bool := (decide (1 ≤ (c.length : Int)) && decide ((c.length : Int) ≤ 160)) && (plainB c && !c.any fun b => ([35, 64] : List UInt8).contains b)
def recB (c r : List UInt8) : Bool := cmdB c && (decide ((r.length : Int) ≤ 200) && (plainB r && !r.any fun b => ([35] : List UInt8).contains b))
theorem isCommand (s : ByteArray) : Ev (fun k => impl_isCommand.f k s) (cmdB (bs s)) := by
  unfold impl_isCommand.f cmdB
  rw [bs_size]
  refine Ev.bindc (within_f _ _ _) ?_
  refine Ev.cases (fun h => ?_) (fun h => ?_)
  · simp only [Bool.and_eq_true, decide_eq_true_eq] at h
    refine Ev.bind (isPrinted s _ (by omega) (by decide) (by decide)) (Ev.const ?_)
    rw [decide_eq_true h.1, decide_eq_true h.2]; rfl
  · exact Ev.const (by rw [Bool.eq_false_iff.mpr h]; rfl)
theorem isValidRecord (c r : ByteArray) : Ev (fun k => impl_IsValidRecord.f k c r) (recB (bs c) (bs r)) := by
  unfold impl_IsValidRecord.f recB
  refine Ev.bind (isCommand c) ?_
  refine Ev.cases (fun h => ?_) (fun h => ?_)
  · rw [h, bs_size r, Bool.true_and]
    refine Ev.cases (fun h2 => ?_) (fun h2 => ?_)
    · refine Ev.bind (isPrinted r _ (by omega) (by decide) (by decide)) (Ev.const ?_)
      rw [decide_eq_true h2]; rfl
    · exact Ev.const (by rw [decide_eq_false h2]; rfl)
  · exact Ev.const (by rw [Bool.eq_false_iff.mpr h]; rfl)

/-! ### the reference's tests -/
theorem l27Plain_l0 (s : ByteArray) (m : Int) (hs : s.size ≤ 4611686018427387904) : ∀ (d i : Nat), s.size - i = d → i ≤ s.size →
    Ev (fun k => spec_l27Plain.l0 k s m (i : Int)) ((plainB ((bs s).drop i) && !((bs s).drop i).any fun b => ([35] : List UInt8).contains b) && decide ((s.size : Int) ≤ m)) := by
  have hl := bs_size s
  intro d
  induction d with
  | zero =>
    intro i hd hi
    refine Ev.step (fun k => by rw [spec_l27Plain.l0]) ?_
    refine Ev.neg (by omega) (Ev.const ?_)
    rw [List.drop_of_length_le (by omega)]; rfl
  | succ d ih =>
    intro i hd hi
    have hb := bt_bs s i (by omega)
    have hc : (bs s).drop i = (bs s)[i]'(by omega) :: (bs s).drop (i + 1) := List.drop_eq_getElem_cons (by omega)
    have hlt := ((bs s)[i]'(by omega)).toNat_lt
    refine Ev.step (fun k => by rw [spec_l27Plain.l0]) ?_
    refine Ev.pos (by omega) (Ev.pos (by omega) (Ev.bindc (l1In_f _ _ _) ?_))
    have e1 : plainB ((bs s)[i]'(by omega) :: (bs s).drop (i + 1)) = ((decide (32 ≤ ((bs s)[i]'(by omega)).toNat) && decide (((bs s)[i]'(by omega)).toNat ≤ 126)) && plainB ((bs s).drop (i + 1))) := List.all_cons
    rw [hc, hb, w64 (x := ((((bs s)[i]'(by omega)).toNat : Nat) : Int)) (by omega) (by omega), w64 (x := (i : Int) + 1) (by omega) (by omega), show (i : Int) + 1 = ((i + 1 : Nat) : Int) from by omega]
    refine Ev.cases (fun h => ?_) (fun h => ?_)
    · simp only [Bool.and_eq_true, decide_eq_true_eq] at h
      refine Ev.cases (fun h2 => ?_) (fun h2 => ?_)
      · have h3 : (bs s)[i]'(by omega) = 35 := UInt8.toNat_inj.mp (by have : ((35 : UInt8)).toNat = 35 := rfl; omega)
        exact Ev.const (by rw [h3]; simp)
      · have h3 : ([35] : List UInt8).contains ((bs s)[i]'(by omega)) = false := by
          simp only [List.contains_cons, List.contains_nil, Bool.or_false, beq_eq_false_iff_ne]
          intro e; rw [e] at h2; exact h2 rfl
        refine Ev.eq (ih (i + 1) (by omega) (by omega)) ?_
        rw [e1, decide_eq_true (show 32 ≤ ((bs s)[i]'(by omega)).toNat by omega), decide_eq_true (show ((bs s)[i]'(by omega)).toNat ≤ 126 by omega), List.any_cons, h3]; rfl
    · refine Ev.const ?_
      have : (decide (32 ≤ ((bs s)[i]'(by omega)).toNat) && decide (((bs s)[i]'(by omega)).toNat ≤ 126)) = false := by
        rw [Bool.eq_false_iff]; intro h2
        simp only [Bool.and_eq_true, decide_eq_true_eq] at h2 h
        omega
      rw [e1, this]; rfl
theorem l27Plain (s : ByteArray) (m : Int) (hs : s.size ≤ 4611686018427387904) : Ev (fun k => spec_l27Plain.f k s m) ((plainB (bs s) && !(bs s).any fun b => ([35] : List UInt8).contains b) && decide ((s.size : Int) ≤ m)) := by
  unfold spec_l27Plain.f
  exact l27Plain_l0 s m hs _ 0 rfl (by omega)
theorem l1Stands_l0 (s : ByteArray) (x : UInt8) (hs : s.size ≤ 4611686018427387904) : ∀ (d i : Nat), s.size - i = d → i ≤ s.size → Ev (fun k => spec_l1Stands.l0 k s (x.toNat : Int) (i : Int)) (((bs s).drop i).any fun b => b == x) := by
  have hl := bs_size s
  intro d
  induction d with
  | zero =>
    intro i hd hi
    refine Ev.step (fun k => by rw [spec_l1Stands.l0]) ?_
    refine Ev.neg (by omega) (Ev.const ?_)
    rw [List.drop_of_length_le (by omega)]; rfl
  | succ d ih =>
    intro i hd hi
    have hb := bt_bs s i (by omega)
    have hc : (bs s).drop i = (bs s)[i]'(by omega) :: (bs s).drop (i + 1) := List.drop_eq_getElem_cons (by omega)
    refine Ev.step (fun k => by rw [spec_l1Stands.l0]) ?_
    refine Ev.pos (by omega) (Ev.pos (by omega) ?_)
    rw [hc, hb, w64 (x := (i : Int) + 1) (by omega) (by omega), show (i : Int) + 1 = ((i + 1 : Nat) : Int) from by omega, List.any_cons]
    refine Ev.cases (fun h => ?_) (fun h => ?_)
    · have h3 : (bs s)[i]'(by omega) = x := UInt8.toNat_inj.mp (by omega)
      exact Ev.const (by rw [h3]; simp)
    · have h3 : ((bs s)[i]'(by omega) == x) = false := by
        rw [beq_eq_false_iff_ne]; intro e; rw [e] at h; exact h rfl
      exact Ev.eq (ih (i + 1) (by omega) (by omega)) (by rw [h3]; rfl)
theorem l1Stands (s : ByteArray) (x : UInt8) (hs : s.size ≤ 4611686018427387904) : Ev (fun k => spec_l1Stands.f k s (x.toNat : Int)) ((bs s).any fun b => b == x) := by
  unfold spec_l1Stands.f
  exact l1Stands_l0 s x hs _ 0 rfl (by omega)
theorem any_two (l : List UInt8) : (l.any fun b => ([35, 64] : List UInt8).contains b) = ((l.any fun b => ([35] : List UInt8).contains b) || l.any fun b => b == 64) := by
  induction l with
  | nil => rfl
  | cons b l ih =>
    have e1 : ([35, 64] : List UInt8).contains b = ((b == 35) || (b == 64)) := by simp only [List.contains_cons, List.contains_nil, Bool.or_false]
    have e2 : ([35] : List UInt8).contains b = (b == 35) := by simp only [List.contains_cons, List.contains_nil, Bool.or_false]
    rw [List.any_cons, List.any_cons, List.any_cons, ih, e1, e2]
    generalize (l.any fun b => ([35] : List UInt8).contains b) = p
    generalize (l.any fun b => b == 64) = q
    cases (b == 35) <;> cases (b == 64) <;> cases p <;> cases q <;> rfl
theorem l27Good (c r : ByteArray) (hc : c.size ≤ 4611686018427387904) (hr : r.size ≤ 4611686018427387904) : Ev (fun k => spec_l27Good.f k c r) (recB (bs c) (bs r)) := by
  unfold spec_l27Good.f recB cmdB
  rw [toList_bs, any_two]
  refine Ev.cases (fun h => ?_) (fun h => ?_)
  · exact Ev.const (by rw [h]; rfl)
  · have h1 : decide (1 ≤ ((bs c).length : Int)) = true := by
      have := List.length_pos_iff.mpr h
      exact decide_eq_true (by omega)
    rw [h1, Bool.true_and, bs_size, bs_size]
    refine Ev.bind (l27Plain c 160 hc) ?_
    generalize plainB (bs c) = p
    generalize ((bs c).any fun b => ([35] : List UInt8).contains b) = q
    generalize decide ((c.size : Int) ≤ 160) = z
    refine Ev.cases (fun h2 => ?_) (fun h2 => ?_)
    · refine Ev.bind (l1Stands c 64 hc) ?_
      generalize ((bs c).any fun b => b == 64) = y
      refine Ev.cases (fun h3 => ?_) (fun h3 => ?_)
      · exact Ev.const (by rw [h3]; cases p <;> cases q <;> cases z <;> simp_all)
      · refine Ev.bind (l27Plain r 200 hr) (Ev.const ?_)
        congr 1
        generalize decide ((r.size : Int) ≤ 200) = z2
        generalize plainB (bs r) = p2
        generalize ((bs r).any fun b => ([35] : List UInt8).contains b) = q2
        cases p <;> cases q <;> cases z <;> cases y <;> cases p2 <;> cases q2 <;> cases z2 <;> simp_all
    · refine Ev.const ?_
      congr 1
      cases p <;> cases q <;> cases z <;> simp_all

end Go.Proofs.YtlnlabndaikbnaaGreatDoor.Pure

/- Log records: the checksum, the lines; the program's functions and the reference's. -/
namespace Go.Proofs.YtlnlabndaikbnaaGreatDoor.Pure
open Go.RowKit Go.Proofs.YtlnlabndaikbnaaGreatDoor.P Go.Proofs.YtlnlabndaikbnaaGreatDoorW.PrintWords Go.Proofs.YtlnlabndaikbnaaGreatDoorW.PrintLast

/-! ### the checksum -/
def chkI (h : Int) : List UInt8 → Int
  | [] => h
  | b :: l => chkI ((41 * h + (b.toNat : Int) + 1) % 999979) l
theorem chkI_range : ∀ (l : List UInt8) (h : Int), 0 ≤ h ∧ h < 999979 → 0 ≤ chkI h l ∧ chkI h l < 999979
  | [], _, hh => hh
  | b :: l, h, _ => chkI_range l _ ⟨Int.emod_nonneg _ (by decide), Int.emod_lt_of_pos _ (by decide)⟩
theorem checksum_l0 (s : ByteArray) (hs : s.size ≤ 4611686018427387904) : ∀ (d i : Nat) (h : Int), s.size - i = d → i ≤ s.size → 0 ≤ h ∧ h < 999979 → Ev (fun k => impl_checksum.l0 k s h (i : Int)) (chkI h ((bs s).drop i)) := by
  have hl := bs_size s
  intro d
  induction d with
  | zero =>
    intro i h hd hi hh
    refine Ev.step (fun k => by rw [impl_checksum.l0]) ?_
    refine Ev.neg (by omega) (Ev.const ?_)
    rw [List.drop_of_length_le (by omega)]; rfl
  | succ d ih =>
    intro i h hd hi hh
    have hb := bt_bs s i (by omega)
    have hc : (bs s).drop i = (bs s)[i]'(by omega) :: (bs s).drop (i + 1) := List.drop_eq_getElem_cons (by omega)
    have hlt := ((bs s)[i]'(by omega)).toNat_lt
    refine Ev.step (fun k => by rw [impl_checksum.l0]) ?_
    refine Ev.pos (by omega) (Ev.pos (by omega) ?_)
    rw [hc, hb, w64 (x := 41 * h) (by omega) (by omega), w64 (x := ((((bs s)[i]'(by omega)).toNat : Nat) : Int)) (by omega) (by omega), w64 (x := 41 * h + _) (by omega) (by omega), w64 (x := _ + 1) (by omega) (by omega), w64 (x := (i : Int) + 1) (by omega) (by omega), show (i : Int) + 1 = ((i + 1 : Nat) : Int) from by omega, Int.tmod_eq_emod_of_nonneg (by omega)]
    exact ih (i + 1) _ (by omega) (by omega) ⟨Int.emod_nonneg _ (by decide), Int.emod_lt_of_pos _ (by decide)⟩
theorem checksum (s : ByteArray) (hs : s.size ≤ 4611686018427387904) : Ev (fun k => impl_checksum.f k s) (chkI 7 (bs s)) := by
  unfold impl_checksum.f
  exact checksum_l0 s hs _ 0 7 rfl (by omega) (by omega)
theorem l1Sum_l0 (s : ByteArray) (hs : s.size ≤ 4611686018427387904) : ∀ (d i : Nat) (h : Int), s.size - i = d → i ≤ s.size → 0 ≤ h ∧ h < 999979 → Ev (fun k => spec_l1Sum.l0 k s h (i : Int)) (chkI h ((bs s).drop i)) := by
  have hl := bs_size s
  intro d
  induction d with
  | zero =>
    intro i h hd hi hh
    refine Ev.step (fun k => by rw [spec_l1Sum.l0]) ?_
    refine Ev.neg (by omega) (Ev.const ?_)
    rw [List.drop_of_length_le (by omega)]; rfl
  | succ d ih =>
    intro i h hd hi hh
    have hb := bt_bs s i (by omega)
    have hc : (bs s).drop i = (bs s)[i]'(by omega) :: (bs s).drop (i + 1) := List.drop_eq_getElem_cons (by omega)
    have hlt := ((bs s)[i]'(by omega)).toNat_lt
    refine Ev.step (fun k => by rw [spec_l1Sum.l0]) ?_
    refine Ev.pos (by omega) (Ev.pos (by omega) ?_)
    rw [hc, hb, w64 (x := 41 * h) (by omega) (by omega), w64 (x := ((((bs s)[i]'(by omega)).toNat : Nat) : Int)) (by omega) (by omega), w64 (x := 41 * h + _) (by omega) (by omega), w64 (x := _ + 1) (by omega) (by omega), w64 (x := (i : Int) + 1) (by omega) (by omega), show (i : Int) + 1 = ((i + 1 : Nat) : Int) from by omega, Int.tmod_eq_emod_of_nonneg (by omega)]
    exact ih (i + 1) _ (by omega) (by omega) ⟨Int.emod_nonneg _ (by decide), Int.emod_lt_of_pos _ (by decide)⟩
theorem l1Sum (s : ByteArray) (hs : s.size ≤ 4611686018427387904) : Ev (fun k => spec_l1Sum.f k s) (chkI 7 (bs s)) := by
  unfold spec_l1Sum.f
  exact l1Sum_l0 s hs _ 0 7 rfl (by omega) (by omega)

/-! ### lines -/
theorem decDigits_range : ∀ (u : Nat), ∀ b ∈ Lib.decDigits u, 48 ≤ b.toNat ∧ b.toNat ≤ 57 := by
  intro u
  induction u using Nat.strongRecOn with
  | _ u ih =>
    intro b hb
    have hd : ∀ d : Fin 10, 48 ≤ (UInt8.ofNat (48 + d.val)).toNat ∧ (UInt8.ofNat (48 + d.val)).toNat ≤ 57 := by decide
    by_cases h : u < 10
    · rw [Lib.decDigits_one h] at hb
      rw [List.mem_singleton.mp hb]
      exact hd ⟨u, h⟩
    · rw [Lib.decDigits, dif_neg h] at hb
      rcases List.mem_append.mp hb with h2 | h2
      · exact ih (u / 10) (by omega) b h2
      · rw [List.mem_singleton.mp h2]
        exact hd ⟨u % 10, Nat.mod_lt _ (by decide)⟩
theorem itoa_range {n : Int} (h : 0 ≤ n) : ∀ b ∈ Lib.itoa n, 48 ≤ b.toNat ∧ b.toNat ≤ 57 := by
  unfold Lib.itoa
  rw [if_neg (by omega)]
  exact decDigits_range _
theorem itoa_no {n : Int} (h : 0 ≤ n) (x : UInt8) (hx : x.toNat < 48 ∨ 57 < x.toNat) : ∀ b ∈ Lib.itoa n, b ≠ x := by
  intro b hb e
  have := itoa_range h b hb
  rw [e] at this
  omega
theorem itoa_f (n : Int) (h0 : 0 ≤ n) (h1 : n ≤ 9223372036854775807) : strconv_Itoa.f n = some ⟨(Lib.itoa n).toArray⟩ := by
  unfold strconv_Itoa.f
  rw [if_pos (by omega), if_pos (by omega)]
theorem l1Num_f (n : Int) (h0 : 0 ≤ n) (h1 : n ≤ 9223372036854775807) : spec_l1Num.f n = some ⟨(Lib.itoa n).toArray⟩ := by
  unfold spec_l1Num.f
  rw [if_pos (by omega), if_pos (by omega)]
def bodyL (k : Int) (c r : List UInt8) : List UInt8 := (((Lib.itoa k ++ [32]) ++ c) ++ [64]) ++ r
def sealL (t : List UInt8) : List UInt8 := (t ++ [35]) ++ Lib.itoa (chkI 7 t)
def lineL (k : Int) (c r : List UInt8) : List UInt8 := sealL (bodyL k c r) ++ [10]
theorem itoa_len {n : Int} (h0 : 0 ≤ n) (h1 : n ≤ 9223372036854775807) : (Lib.itoa n).length ≤ 21 := Lib.itoa_length_le n (by omega) h1
theorem sealL_len (t : List UInt8) : (sealL t).length ≤ t.length + 22 ∧ t.length + 1 ≤ (sealL t).length := by
  have h := chkI_range t 7 (by omega)
  have := itoa_len h.1 (by omega)
  unfold sealL
  simp only [List.length_append, List.length_cons, List.length_nil]
  omega
theorem bodyL_len {k : Int} (h0 : 0 ≤ k) (h1 : k ≤ 9223372036854775807) (c r : List UInt8) : (bodyL k c r).length ≤ 23 + c.length + r.length := by
  have := itoa_len h0 h1
  unfold bodyL
  simp only [List.length_append, List.length_cons, List.length_nil]
  omega
theorem l1Seal (t : ByteArray) (ht : t.size ≤ 4611686018427387904) : Ev (fun k => spec_l1Seal.f k t) ⟨(sealL (bs t)).toArray⟩ := by
  have h := chkI_range (bs t) 7 (by omega)
  have h2 := itoa_len h.1 (by omega)
  unfold spec_l1Seal.f
  refine Ev.pos (by omega) (Ev.bind (l1Sum t ht) (Ev.bindc (l1Num_f _ h.1 (by omega)) (Ev.pos ?_ (Ev.const ?_))))
  · rw [size_mk (Lib.itoa _), ByteArray.size_append, show (⟨#[35]⟩ : ByteArray).size = 1 from rfl]; omega
  · refine congrArg some (bs_inj ?_)
    rw [bs_append, bs_append, bs_mk (sealL (bs t)), bs_mk (Lib.itoa _)]; rfl
theorem body_bs (k : Int) (c r : ByteArray) : bs (((((⟨(Lib.itoa k).toArray⟩ : ByteArray) ++ (⟨#[32]⟩ : ByteArray)) ++ c) ++ (⟨#[64]⟩ : ByteArray)) ++ r) = bodyL k (bs c) (bs r) := by
  rw [bs_append, bs_append, bs_append, bs_append, bs_mk (Lib.itoa k)]; rfl
theorem l27Line (k : Int) (h0 : 0 ≤ k) (h1 : k ≤ 9223372036854775807) (c r : ByteArray) (hc : c.size ≤ 1073741824) (hr : r.size ≤ 1073741824) : Ev (fun n => spec_l27Line.f n k c r) ⟨(lineL k (bs c) (bs r)).toArray⟩ := by
  have h2 := itoa_len h0 h1
  have e32 : (⟨#[32]⟩ : ByteArray).size = 1 := rfl
  have e64 : (⟨#[64]⟩ : ByteArray).size = 1 := rfl
  have hb := bodyL_len h0 h1 (bs c) (bs r)
  rw [bs_size, bs_size] at hb
  have hsz := bs_size (((((⟨(Lib.itoa k).toArray⟩ : ByteArray) ++ (⟨#[32]⟩ : ByteArray)) ++ c) ++ (⟨#[64]⟩ : ByteArray)) ++ r)
  rw [body_bs] at hsz
  unfold spec_l27Line.f
  refine Ev.bindc (l1Num_f k h0 h1) (Ev.pos ?_ (Ev.pos ?_ (Ev.pos ?_ (Ev.pos ?_ (Ev.bind (l1Seal _ (by omega)) (Ev.pos ?_ (Ev.const ?_)))))))
  · rw [size_mk (Lib.itoa k)]; omega
  · rw [ByteArray.size_append, size_mk (Lib.itoa _)]; omega
  · rw [ByteArray.size_append, ByteArray.size_append, size_mk (Lib.itoa _)]; omega
  · rw [ByteArray.size_append, ByteArray.size_append, ByteArray.size_append, size_mk (Lib.itoa _)]; omega
  · rw [size_mk (sealL _), body_bs]; have := sealL_len (bodyL k (bs c) (bs r)); omega
  · refine congrArg some (bs_inj ?_)
    rw [bs_append, bs_mk (sealL _), bs_mk (lineL _ _ _), body_bs]; rfl
theorem contains35 (s : ByteArray) : strings_Contains.f s ⟨#[35]⟩ = some (decide (35 ∈ bs s)) := by
  unfold strings_Contains.f strings_Index.f
  rw [index_f]
  simp only [Option.bind_some]
  by_cases h : (35 : UInt8) ∈ bs s
  · obtain ⟨a, t, h1, h2⟩ := span_at 35 _ h
    rw [h1, indexByte_hit 35 a t h2, decide_eq_true (by omega), ← h1, decide_eq_true h]
  · rw [indexByte_miss 35 _ (fun b hb e => h (e ▸ hb)), decide_eq_false h]; rfl
/-- What AppendChecksum gives. -/
def appT (t : List UInt8) : ByteArray × Bool := if (t.length ≤ 4000 ∧ 35 ∉ t) ∧ (sealL t).length ≤ 4000 then (⟨(sealL t).toArray⟩, true) else (⟨#[]⟩, false)
theorem appendChecksum (s : ByteArray) (hs : s.size ≤ 4611686018427387904) : Ev (fun k => impl_AppendChecksum.f k s) (appT (bs s)) := by
  have hl := bs_size s
  unfold impl_AppendChecksum.f appT
  refine Ev.cases (fun h => ?_) (fun h => ?_)
  · refine Ev.step (fun k => by rw [impl_AppendChecksum.j0]) ?_
    exact Ev.pos rfl (Ev.const (by rw [if_neg (fun h2 => by omega)]))
  · refine Ev.bindc (contains35 s) ?_
    refine Ev.step (fun k => by rw [impl_AppendChecksum.j0]) ?_
    refine Ev.cases (fun h2 => ?_) (fun h2 => ?_)
    · have h3 : (35 : UInt8) ∈ bs s := by simpa using h2
      exact Ev.const (by rw [if_neg (fun h4 => h4.1.2 h3)])
    · have h3 : (35 : UInt8) ∉ bs s := by simpa using h2
      have hr := chkI_range (bs s) 7 (by omega)
      have h4 := itoa_len hr.1 (by omega)
      have e35 : (⟨#[35]⟩ : ByteArray).size = 1 := rfl
      have hx : (s ++ (⟨#[35]⟩ : ByteArray)) ++ (⟨(Lib.itoa (chkI 7 (bs s))).toArray⟩ : ByteArray) = ⟨(sealL (bs s)).toArray⟩ := bs_inj (by rw [bs_append, bs_append, bs_mk (sealL (bs s)), bs_mk (Lib.itoa _)]; rfl)
      refine Ev.pos (by omega) (Ev.bind (checksum s hs) (Ev.bindc (itoa_f _ hr.1 (by omega)) (Ev.pos ?_ ?_)))
      · rw [ByteArray.size_append, size_mk (Lib.itoa _)]; omega
      · rw [hx, size_mk (sealL _)]
        refine Ev.cases (fun h5 => ?_) (fun h5 => ?_)
        · exact Ev.const (by rw [if_neg (fun h6 => by omega)])
        · exact Ev.const (by rw [if_pos ⟨⟨by omega, h3⟩, by omega⟩])
theorem rec_parts {c r : List UInt8} (h : recB c r = true) : (1 ≤ c.length ∧ c.length ≤ 160) ∧ r.length ≤ 200 ∧ (∀ b ∈ c, b ≠ 35) ∧ (∀ b ∈ c, b ≠ 64) ∧ (∀ b ∈ r, b ≠ 35) ∧ (∀ b ∈ c, 32 ≤ b.toNat) ∧ ∀ b ∈ r, 32 ≤ b.toNat := by
  simp only [recB, cmdB, Bool.and_eq_true, decide_eq_true_eq, Bool.not_eq_true', List.any_eq_false] at h
  obtain ⟨⟨⟨h1, h2⟩, h3, h4⟩, h5, h6, h7⟩ := h
  have g3 := List.all_eq_true.mp h3
  have g6 := List.all_eq_true.mp h6
  simp only [Bool.and_eq_true, decide_eq_true_eq] at g3 g6
  refine ⟨⟨by omega, by omega⟩, by omega, fun b hb e => h4 b hb (by rw [e]; rfl), fun b hb e => h4 b hb (by rw [e]; rfl), fun b hb e => h7 b hb (by rw [e]; rfl), fun b hb => (g3 b hb).1, fun b hb => (g6 b hb).1⟩
theorem body_no {k : Int} (hk : 0 ≤ k) {c r : List UInt8} (h : recB c r = true) : ∀ b ∈ bodyL k c r, b ≠ 35 := by
  have hp := rec_parts h
  intro b hb
  simp only [bodyL, List.mem_append, List.mem_singleton] at hb
  rcases hb with (((h1 | h1) | h1) | h1) | h1
  · exact itoa_no hk 35 (.inl (by decide)) b h1
  · rw [h1]; decide
  · exact hp.2.2.1 b h1
  · rw [h1]; decide
  · exact hp.2.2.2.2.1 b h1
theorem body_small {k : Int} (hk : 0 ≤ k) (hk2 : k ≤ 9223372036854775807) {c r : List UInt8} (h : recB c r = true) : (bodyL k c r).length ≤ 383 ∧ (sealL (bodyL k c r)).length ≤ 405 := by
  have hp := rec_parts h
  have h1 := bodyL_len hk hk2 c r
  have h2 := sealL_len (bodyL k c r)
  omega
theorem encodeRecord (k : Int) (h0 : 0 ≤ k) (h1 : k ≤ 9223372036854775807) (c r : ByteArray) (hrec : recB (bs c) (bs r) = true) : Ev (fun n => impl_encodeRecord.f n k c r) ⟨(lineL k (bs c) (bs r)).toArray⟩ := by
  have h2 := itoa_len h0 h1
  have e32 : (⟨#[32]⟩ : ByteArray).size = 1 := rfl
  have e64 : (⟨#[64]⟩ : ByteArray).size = 1 := rfl
  have e10 : (⟨#[10]⟩ : ByteArray).size = 1 := rfl
  have hp := rec_parts hrec
  rw [bs_size, bs_size] at hp
  have hb := body_small h0 h1 hrec
  have hsz := bs_size (((((⟨(Lib.itoa k).toArray⟩ : ByteArray) ++ (⟨#[32]⟩ : ByteArray)) ++ c) ++ (⟨#[64]⟩ : ByteArray)) ++ r)
  rw [body_bs] at hsz
  have happ := appendChecksum (((((⟨(Lib.itoa k).toArray⟩ : ByteArray) ++ (⟨#[32]⟩ : ByteArray)) ++ c) ++ (⟨#[64]⟩ : ByteArray)) ++ r) (by omega)
  rw [body_bs, appT, if_pos ⟨⟨by omega, fun hm => body_no h0 hrec 35 hm rfl⟩, by omega⟩] at happ
  unfold impl_encodeRecord.f
  refine Ev.bindc (itoa_f k h0 h1) (Ev.pos ?_ (Ev.pos ?_ (Ev.pos ?_ (Ev.pos ?_ (Ev.bind happ (Ev.pos ?_ (Ev.const ?_)))))))
  · rw [size_mk (Lib.itoa k)]; omega
  · rw [ByteArray.size_append, size_mk (Lib.itoa _)]; omega
  · rw [ByteArray.size_append, ByteArray.size_append, size_mk (Lib.itoa _)]; omega
  · rw [ByteArray.size_append, ByteArray.size_append, ByteArray.size_append, size_mk (Lib.itoa _)]; omega
  · simp only [size_mk]; omega
  · refine congrArg some (bs_inj ?_)
    rw [bs_append, bs_mk (sealL _), bs_mk (lineL _ _ _)]; rfl
end Go.Proofs.YtlnlabndaikbnaaGreatDoor.Pure

/- Log records read from a text: the program's loop and the reference's. -/
namespace Go.Proofs.YtlnlabndaikbnaaGreatDoor.Pure
open Go.RowKit Go.Proofs.YtlnlabndaikbnaaGreatDoor.P Go.Proofs.YtlnlabndaikbnaaGreatDoorW.PrintWords Go.Proofs.YtlnlabndaikbnaaGreatDoorW.PrintLast

abbrev Rec := S62
/-- A line, without its newline, is that of a record at a place. -/
def IsRec (k : Int) (l : List UInt8) (e : Rec) : Prop := recB (bs e.f0) (bs e.f1) = true ∧ lineL k (bs e.f0) (bs e.f1) = l ++ [10]
theorem lineL_eq {k : Int} {c r l : List UInt8} (h : lineL k c r = l ++ [10]) : sealL (bodyL k c r) = l := by
  unfold lineL at h
  exact (List.append_inj_left' h rfl)
theorem isRec_line {k : Int} {l : List UInt8} {e : Rec} (h : IsRec k l e) : sealL (bodyL k (bs e.f0) (bs e.f1)) = l := lineL_eq h.2
theorem seal_inj {a b : List UInt8} (ha : ∀ x ∈ a, x ≠ 35) (hb : ∀ x ∈ b, x ≠ 35) (h : sealL a = sealL b) : a = b := by
  unfold sealL at h
  rw [List.append_assoc, List.append_assoc] at h
  exact (span_inj ha hb h).1
theorem body_split (k : Int) (c r : List UInt8) : bodyL k c r = Lib.itoa k ++ 32 :: (c ++ 64 :: r) := by
  unfold bodyL
  simp
theorem body_inj {k : Int} {c r c' r' : List UInt8} (h1 : ∀ x ∈ c, x ≠ 64) (h2 : ∀ x ∈ c', x ≠ 64) (h : bodyL k c r = bodyL k c' r') : c = c' ∧ r = r' := by
  rw [body_split, body_split] at h
  have h3 := (List.cons.inj (List.append_cancel_left h)).2
  exact span_inj h1 h2 h3
theorem isRec_uniq {k : Int} (hk : 0 ≤ k) {l : List UInt8} {e e' : Rec} (h : IsRec k l e) (h' : IsRec k l e') : e = e' := by
  have p := rec_parts h.1
  have p' := rec_parts h'.1
  have hb := seal_inj (body_no hk h.1) (body_no hk h'.1) ((isRec_line h).trans (isRec_line h').symm)
  have := body_inj p.2.2.2.1 p'.2.2.2.1 hb
  obtain ⟨a, b⟩ := e
  obtain ⟨a', b'⟩ := e'
  obtain rfl : a = a' := bs_inj this.1
  obtain rfl : b = b' := bs_inj this.2
  rfl
open Classical in
/-- The record of a line, if it is that of one. -/
noncomputable def decL (k : Int) (l : List UInt8) : Option Rec := if h : ∃ e, IsRec k l e then some h.choose else none
theorem decL_some {k : Int} (hk : 0 ≤ k) {l : List UInt8} {e : Rec} (h : IsRec k l e) : decL k l = some e := by
  have hx : ∃ e, IsRec k l e := ⟨e, h⟩
  unfold decL
  rw [dif_pos hx, isRec_uniq hk hx.choose_spec h]
theorem decL_none {k : Int} {l : List UInt8} (h : ¬ ∃ e, IsRec k l e) : decL k l = none := by unfold decL; rw [dif_neg h]
/-- The records at the begin of a text, with the place of the first, and how many bytes they take. -/
noncomputable def readL : Nat → Int → List UInt8 → List Rec × Nat
  | 0, _, _ => ([], 0)
  | n + 1, k, l => if 10 ∈ l then (match decL k (l.takeWhile fun b => b != 10) with
      | some e => (e :: (readL n (k + 1) (l.drop ((l.takeWhile fun b => b != 10).length + 1))).1, (l.takeWhile fun b => b != 10).length + 1 + (readL n (k + 1) (l.drop ((l.takeWhile fun b => b != 10).length + 1))).2)
      | none => ([], 0)) else ([], 0)
theorem takeWhile_ne (x : UInt8) (l t : List UInt8) (h : ∀ b ∈ l, b ≠ x) : (l ++ x :: t).takeWhile (fun b => b != x) = l := by
  induction l with
  | nil => simp
  | cons a l ih =>
    have h1 : (a != x) = true := by simpa using h a (by simp)
    rw [List.cons_append, List.takeWhile_cons, h1, if_pos rfl, ih (fun b hb => h b (by simp [hb]))]
theorem readL_hit {n : Nat} {k : Int} (hk : 0 ≤ k) {a t : List UInt8} (ha : ∀ b ∈ a, b ≠ 10) {e : Rec} (he : IsRec k a e) :
    readL (n + 1) k (a ++ 10 :: t) = (e :: (readL n (k + 1) t).1, a.length + 1 + (readL n (k + 1) t).2) := by
  have hd : (a ++ 10 :: t).drop (a.length + 1) = t := by
    rw [show a ++ 10 :: t = (a ++ [10]) ++ t from by simp, List.drop_append_of_le_length (by simp), List.drop_of_length_le (by simp), List.nil_append]
  rw [readL, if_pos (by simp), takeWhile_ne 10 a t ha, decL_some hk he, hd]
theorem readL_bad {n : Nat} {k : Int} {a t : List UInt8} (ha : ∀ b ∈ a, b ≠ 10) (he : ¬ ∃ e, IsRec k a e) : readL (n + 1) k (a ++ 10 :: t) = ([], 0) := by
  rw [readL, if_pos (by simp), takeWhile_ne 10 a t ha, decL_none he]
theorem readL_end {n : Nat} {k : Int} {a : List UInt8} (ha : ∀ b ∈ a, b ≠ 10) : readL n k a = ([], 0) := by
  cases n with
  | zero => rfl
  | succ n => rw [readL, if_neg (fun h => ha 10 h rfl)]
theorem readL_le : ∀ (n : Nat) (k : Int) (l : List UInt8), 0 ≤ k → k + n ≤ 1000 → (readL n k l).2 ≤ l.length ∧ (readL n k l).1.length ≤ n ∧ (readL n k l).2 ≤ 420 * (readL n k l).1.length := by
  intro n
  induction n with
  | zero => intro k l _ _; simp [readL]
  | succ n ih =>
    intro k l hk hk2
    by_cases h : (10 : UInt8) ∈ l
    · obtain ⟨a, t, rfl, h2⟩ := span_at 10 l h
      by_cases he : ∃ e, IsRec k a e
      · obtain ⟨e, he⟩ := he
        rw [readL_hit hk h2 he]
        have i := ih (k + 1) t (by omega) (by omega)
        simp only [List.length_append, List.length_cons]
        have hb : a.length + 1 ≤ 420 := by
          have h3 := body_small hk (by omega) he.1
          rw [isRec_line he] at h3
          omega
        omega
      · rw [readL_bad h2 he]; simp
    · rw [readL_end (fun b hb e => h (e ▸ hb))]; simp

/-! ### the program's reading -/
theorem verify (s : ByteArray) (hs : s.size ≤ 1073741824) : ∃ (t : ByteArray) (ok : Bool), Ev (fun k => impl_VerifyChecksum.f k s) (t, ok) ∧ (ok = true → bs s = sealL (bs t) ∧ ∀ b ∈ bs t, b ≠ 35) ∧
    (∀ b, (∀ x ∈ b, x ≠ 35) → sealL b = bs s → (sealL b).length ≤ 4000 → bs t = b ∧ ok = true) := by
  by_cases h : (35 : UInt8) ∈ bs s
  · obtain ⟨a, t, h1, h2⟩ := span_at 35 _ h
    have hl := congrArg List.length h1
    rw [bs_size] at hl
    simp only [List.length_append, List.length_cons] at hl
    have hap := appendChecksum (⟨a.toArray⟩ : ByteArray) (by rw [size_mk a]; omega)
    rw [bs_mk a] at hap
    have hc := cut_hit (by omega) h1 h2
    by_cases hok : ((a.length ≤ 4000 ∧ 35 ∉ a) ∧ (sealL a).length ≤ 4000) ∧ sealL a = bs s
    · refine ⟨⟨a.toArray⟩, true, ?_, ?_, ?_⟩
      · unfold impl_VerifyChecksum.f
        rw [appT, if_pos hok.1] at hap
        refine Ev.bindc hc (Ev.bind hap (Ev.pos rfl (Ev.pos rfl (Ev.pos ?_ (Ev.const rfl)))))
        rw [toList_bs, toList_bs, bs_mk (sealL a)]; exact hok.2
      · intro _
        rw [bs_mk a]
        exact ⟨hok.2.symm, h2⟩
      · intro b hb he _
        rw [bs_mk a]
        exact ⟨seal_inj h2 hb (hok.2.trans he.symm), rfl⟩
    · refine ⟨⟨#[]⟩, false, ?_, (fun h => by cases h), ?_⟩
      · unfold impl_VerifyChecksum.f
        refine Ev.bindc hc (Ev.bind hap (Ev.pos rfl ?_))
        unfold appT
        by_cases h3 : (a.length ≤ 4000 ∧ 35 ∉ a) ∧ (sealL a).length ≤ 4000
        · rw [if_pos h3]
          refine Ev.pos rfl (Ev.neg ?_ (Ev.const rfl))
          rw [toList_bs, toList_bs, bs_mk (sealL a)]
          exact fun h4 => hok ⟨h3, h4⟩
        · rw [if_neg h3]
          exact Ev.neg (by simp) (Ev.const rfl)
      · intro b hb he hlen
        exfalso
        have hab : a = b := by
          have h4 : a ++ 35 :: t = b ++ 35 :: Lib.itoa (chkI 7 b) := by rw [← h1, ← he]; unfold sealL; simp
          exact (span_inj h2 hb h4).1
        rw [← hab] at he hlen
        have := sealL_len a
        exact hok ⟨⟨⟨by omega, fun hm => h2 35 hm rfl⟩, hlen⟩, he⟩
  · have hn : ∀ b ∈ bs s, b ≠ 35 := fun b hb e => h (e ▸ hb)
    refine ⟨⟨#[]⟩, false, ?_, (fun h => by cases h), ?_⟩
    · unfold impl_VerifyChecksum.f
      exact Ev.bindc (cut_miss hn) (Ev.bind (appendChecksum s (by omega)) (Ev.neg (by simp) (Ev.const rfl)))
    · intro b hb he _
      exfalso
      refine h ?_
      rw [← he]; unfold sealL; simp
theorem readRecords_l0 (s : ByteArray) (hs : s.size ≤ 1073741824) : ∀ (n : Nat) (o : List Rec) (p : Nat), o.length + n = 60 → p ≤ s.size →
    Ev (fun k => impl_readRecords.l0 k s o (p : Int)) (o ++ (readL n (o.length : Int) ((bs s).drop p)).1, ((p + (readL n (o.length : Int) ((bs s).drop p)).2 : Nat) : Int)) := by
  have hl := bs_size s
  intro n
  induction n with
  | zero =>
    intro o p ho hp
    refine Ev.step (fun k => by rw [impl_readRecords.l0]) ?_
    refine Ev.neg (by omega) (Ev.const ?_)
    simp [readL]
  | succ n ih =>
    intro o p ho hp
    have hx : bs (s.extract p s.size) = (bs s).drop p := by
      rw [bs_extract]; exact List.take_of_length_le (by rw [List.length_drop]; omega)
    have hxs : (s.extract p s.size).size ≤ s.size := by rw [← bs_size, hx, List.length_drop]; omega
    refine Ev.step (fun k => by rw [impl_readRecords.l0]) ?_
    refine Ev.pos (by omega) (Ev.pos (by omega) (Ev.pos (by omega) ?_))
    rw [Int.toNat_natCast]
    by_cases h : (10 : UInt8) ∈ (bs s).drop p
    · obtain ⟨a, t, h1, h2⟩ := span_at 10 _ h
      have hl1 := congrArg List.length h1
      rw [List.length_drop] at hl1
      simp only [List.length_append, List.length_cons] at hl1
      refine Ev.bindc (cut_hit (by omega) (hx.trans h1) h2) ?_
      obtain ⟨tx, ok, hv, hv1, hv2⟩ := verify ⟨a.toArray⟩ (by rw [size_mk a]; omega)
      rw [bs_mk a] at hv1 hv2
      refine Ev.bind hv (Ev.pos rfl ?_)
      refine Ev.step (fun k => by rw [impl_readRecords.j1]) ?_
      by_cases he : ∃ e, IsRec (o.length : Int) a e
      · obtain ⟨e, he⟩ := he
        have hrp := rec_parts he.1
        have hsm := body_small (k := (o.length : Int)) (by omega) (by omega) he.1
        obtain ⟨hb1, hb2⟩ := hv2 _ (body_no (by omega) he.1) (isRec_line he) (by omega)
        subst hb2
        rw [h1, readL_hit (by omega) h2 he]
        have htx : tx.size ≤ 4611686018427387904 := by rw [← bs_size, hb1]; omega
        have hc1 := cut_hit (x := 32) htx (hb1.trans (body_split _ _ _)) (itoa_no (by omega) 32 (.inl (by decide)))
        have hcl : (bs e.f0 ++ 64 :: bs e.f1).length ≤ 400 := by simp only [List.length_append, List.length_cons]; omega
        have hc2 := cut_hit (s := ⟨(bs e.f0 ++ 64 :: bs e.f1).toArray⟩) (x := 64) (by rw [size_mk (_ ++ _)]; omega) (bs_mk (_ ++ _)) hrp.2.2.2.1
        rw [mk_bs, mk_bs] at hc2
        refine Ev.neg (by simp) (Ev.bindc hc1 (Ev.bindc hc2 (Ev.bind (isValidRecord _ _) (Ev.pos he.1 (Ev.bind (encodeRecord _ (by omega) (by omega) _ _ he.1) ?_)))))
        have e10 : (⟨#[10]⟩ : ByteArray).size = 1 := rfl
        refine Ev.pos (by rw [size_mk a]; omega) (Ev.pos ?_ (Ev.pos (by omega) ?_))
        · rw [toList_bs, toList_bs, bs_mk (lineL _ _ _), bs_append, bs_mk a]; exact he.2
        · rw [size_mk a, w64 (x := (a.length : Int) + 1) (by omega) (by omega), w64 (by omega) (by omega), show (p : Int) + ((a.length : Int) + 1) = ((p + (a.length + 1) : Nat) : Int) from by omega]
          have i := ih (o ++ [e]) (p + (a.length + 1)) (by simp; omega) (by omega)
          have hd : (bs s).drop (p + (a.length + 1)) = t := by
            rw [← List.drop_drop, h1, show a ++ 10 :: t = (a ++ [10]) ++ t from by simp, List.drop_append_of_le_length (by simp), List.drop_of_length_le (by simp), List.nil_append]
          rw [hd, show (((o ++ [e]).length : Nat) : Int) = (o.length : Int) + 1 from by simp] at i
          refine Ev.eq i ?_
          simp only [List.append_assoc, List.singleton_append, Prod.mk.injEq, true_and]
          omega
      · rw [h1, readL_bad h2 he, List.append_nil, Nat.add_zero]
        refine Ev.cases (fun h3 => Ev.const rfl) (fun h3 => ?_)
        have hok : ok = true := by simpa using h3
        obtain ⟨hv3, hv4⟩ := hv1 hok
        have hta : (bs tx).length ≤ a.length := by have := sealL_len (bs tx); rw [← hv3] at this; omega
        rw [bs_size] at hta
        have cutx : ∀ (u : ByteArray) (x : UInt8), u.size ≤ 1073741824 → ∃ q, strings_Cut.f u ⟨#[x]⟩ = some q ∧ q.1.size ≤ 1073741824 ∧ q.2.1.size ≤ 1073741824 := by
          intro u x hu
          by_cases hm : x ∈ bs u
          · obtain ⟨a', t', g1, g2⟩ := span_at x _ hm
            have gl := congrArg List.length g1
            rw [bs_size] at gl
            simp only [List.length_append, List.length_cons] at gl
            exact ⟨_, cut_hit (by omega) g1 g2, by simp only [size_mk a']; omega, by simp only [size_mk t']; omega⟩
          · exact ⟨_, cut_miss (fun b hb e => hm (e ▸ hb)), hu, by simp only; decide⟩
        obtain ⟨q1, hq1, hq11, hq12⟩ := cutx tx 32 (by omega)
        obtain ⟨q2, hq2, hq21, hq22⟩ := cutx q1.2.1 64 hq12
        refine Ev.bindc hq1 (Ev.bindc hq2 (Ev.bind (isValidRecord _ _) (Ev.cases (fun h4 => ?_) (fun h4 => Ev.const rfl))))
        refine Ev.bind (encodeRecord (o.length : Int) (by omega) (by omega) _ _ h4) (Ev.pos (by rw [size_mk a]; omega) (Ev.neg ?_ (Ev.const rfl)))
        rw [toList_bs, toList_bs, bs_mk (lineL _ _ _), bs_append, bs_mk a]
        exact fun h5 => he ⟨⟨q2.1, q2.2.1⟩, h4, h5⟩
    · have hn : ∀ b ∈ (bs s).drop p, b ≠ 10 := fun b hb e => h (e ▸ hb)
      rw [readL_end hn, List.append_nil, Nat.add_zero]
      refine Ev.bindc (cut_miss (by rw [hx]; exact hn)) ?_
      obtain ⟨tx, ok, hv, _⟩ := verify (s.extract p s.size) (by omega)
      refine Ev.bind hv (Ev.neg (by simp) ?_)
      refine Ev.step (fun k => by rw [impl_readRecords.j1]) ?_
      exact Ev.pos rfl (Ev.const rfl)
theorem readRecords (s : ByteArray) (hs : s.size ≤ 1073741824) : Ev (fun k => impl_readRecords.f k s) ((readL 60 0 (bs s)).1, ((readL 60 0 (bs s)).2 : Int)) := by
  unfold impl_readRecords.f
  exact Ev.eq (readRecords_l0 s hs 60 [] 0 rfl (by omega)) (by simp)

/-! ### the reference's reading -/
theorem rdOf_head (a : ByteArray) (l : List ByteArray) : rdOf ByteArray.empty (a :: l) 0 = a := by simp [rdOf]
/-- What the reference decodes of a line. -/
theorem l27Read (s : ByteArray) (hs : s.size ≤ 1073741824) (k : Int) (hk : 0 ≤ k) (hk2 : k ≤ 1000000) : ∃ (c r : ByteArray) (ok : Bool), Ev (fun n => spec_l27Read.f n s k) (c, r, ok) ∧ (ok = true → IsRec k (bs s) ⟨c, r⟩) ∧ ((∃ e, IsRec k (bs s) e) → ok = true) := by
  have hit := itoa_len hk (by omega)
  have e32 : (⟨#[32]⟩ : ByteArray).size = 1 := rfl
  have hbsize := bs_size s
  -- the part ahead of the first '#'
  obtain ⟨a, l, hp, ha, hsz, hfull⟩ : ∃ (a : ByteArray) (l : List ByteArray), Ev (fun n => spec_l1Split.f n s 35) (a :: l) ∧ (∀ b ∈ bs a, b ≠ 35) ∧ a.size ≤ s.size ∧ ∀ x, (∀ b ∈ x, b ≠ 35) → sealL x = bs s → x = bs a := by
    by_cases h : (35 : UInt8) ∈ bs s
    · obtain ⟨a, t, h1, h2⟩ := span_at 35 _ h
      obtain ⟨l, _, e⟩ := l1Split_hit hs h1 h2
      refine ⟨_, l, e, by rw [bs_mk a]; exact h2, ?_, ?_⟩
      · have := congrArg List.length h1
        simp only [List.length_append, List.length_cons] at this
        rw [size_mk a]; omega
      · intro x hx he
        rw [bs_mk a]
        have h4 : x ++ 35 :: Lib.itoa (chkI 7 x) = a ++ 35 :: t := by rw [← h1, ← he]; unfold sealL; simp
        exact (span_inj hx h2 h4).1
    · have hn : ∀ b ∈ bs s, b ≠ 35 := fun b hb e => h (e ▸ hb)
      refine ⟨s, [], l1Split_miss hs hn, hn, Nat.le_refl _, ?_⟩
      intro x _ he
      exact absurd (by rw [← he]; unfold sealL; simp) h
  have hal := bs_size a
  have hahead : bs ((⟨(Lib.itoa k).toArray⟩ : ByteArray) ++ (⟨#[32]⟩ : ByteArray)) = Lib.itoa k ++ [32] := by rw [bs_append, bs_mk (Lib.itoa k)]; rfl
  have hasz : ((⟨(Lib.itoa k).toArray⟩ : ByteArray) ++ (⟨#[32]⟩ : ByteArray)).size = (Lib.itoa k).length + 1 := by rw [← bs_size, hahead]; simp
  have hno : ∀ e, IsRec k (bs s) e → bodyL k (bs e.f0) (bs e.f1) = bs a := fun e he => hfull _ (body_no hk he.1) (isRec_line he)
  by_cases hpre : ∃ t, bs a = (Lib.itoa k ++ [32]) ++ t
  · obtain ⟨t, ht⟩ := hpre
    have htl := congrArg List.length ht
    simp only [List.length_append, List.length_cons, List.length_nil] at htl
    have hrest : bs (a.extract ((Lib.itoa k).length + 1) a.size) = t := by
      rw [bs_extract, ht, List.drop_append_of_le_length (by simp), List.drop_of_length_le (by simp), List.nil_append]
      exact List.take_of_length_le (by omega)
    have hrs : (a.extract ((Lib.itoa k).length + 1) a.size).size = t.length := by rw [← bs_size, hrest]
    have hstart : ∀ (r : ByteArray × ByteArray × Bool), Ev (fun n => spec_l27Read.j0 n s k ((⟨(Lib.itoa k).toArray⟩ : ByteArray) ++ (⟨#[32]⟩ : ByteArray)) a false) r → Ev (fun n => spec_l27Read.f n s k) r := by
      intro r hr
      unfold spec_l27Read.f
      refine Ev.bindc (l1Num_f k hk (by omega)) (Ev.pos (by rw [size_mk (Lib.itoa k)]; omega) (Ev.bind hp (Ev.pos (by simp only [List.length_cons]; omega) ?_)))
      rw [rdOf_head]
      refine Ev.neg (by omega) (Ev.pos (by omega) (Ev.pos (by omega) ?_))
      have : (((a.extract 0 ((((⟨(Lib.itoa k).toArray⟩ : ByteArray) ++ (⟨#[32]⟩ : ByteArray)).size : Int)).toNat).toList) != (((⟨(Lib.itoa k).toArray⟩ : ByteArray) ++ (⟨#[32]⟩ : ByteArray)).toList)) = false := by
        rw [bne_eq_false_iff_eq, toList_bs, toList_bs, hahead, bs_extract, hasz, ht, Int.toNat_natCast, List.drop_zero]
        rw [List.take_append_of_le_length (by simp)]
        exact List.take_of_length_le (by simp)
      rw [this]
      exact hr
    by_cases h : (64 : UInt8) ∈ t
    · obtain ⟨c, r, h1, h2⟩ := span_at 64 _ h
      have h1l := congrArg List.length h1
      simp only [List.length_append, List.length_cons] at h1l
      obtain ⟨l2, _, e2⟩ := l1Split_hit (s := a.extract ((Lib.itoa k).length + 1) a.size) (x := 64) (by omega) (hrest.trans h1) h2
      have hrr : (a.extract ((Lib.itoa k).length + 1) a.size).extract (c.length + 1) (a.extract ((Lib.itoa k).length + 1) a.size).size = ⟨r.toArray⟩ := by
        apply bs_inj
        rw [bs_extract, hrest, h1, bs_mk r, show c ++ 64 :: r = (c ++ [64]) ++ r from by simp, List.drop_append_of_le_length (by simp), List.drop_of_length_le (by simp), List.nil_append]
        exact List.take_of_length_le (by omega)
      by_cases hg : recB c r = true
      · refine ⟨⟨c.toArray⟩, ⟨r.toArray⟩, decide (lineL k c r = bs s ++ [10]), hstart _ ?_, ?_, ?_⟩
        · refine Ev.step (fun n => by rw [spec_l27Read.j0]) ?_
          rw [hasz]
          refine Ev.neg (by simp) (Ev.pos (by omega) (Ev.pos (by omega) ?_))
          rw [Int.toNat_natCast]
          refine Ev.bind e2 (Ev.pos (by simp only [List.length_cons]; omega) ?_)
          rw [rdOf_head, size_mk c, hrs, w64 (by omega) (by omega), show ((c.length : Int) + 1).toNat = c.length + 1 from by omega]
          rw [← hrs, hrr]
          refine Ev.neg (by omega) (Ev.pos (by omega) (Ev.pos (by omega) (Ev.bind (l27Good _ _ (by rw [size_mk c]; omega) (by rw [size_mk r]; omega)) ?_)))
          rw [bs_mk c, bs_mk r]
          refine Ev.pos hg (Ev.bind (l27Line k hk (by omega) _ _ (by rw [size_mk c]; omega) (by rw [size_mk r]; omega)) (Ev.pos (by have e10 : (⟨#[10]⟩ : ByteArray).size = 1 := rfl; omega) (Ev.const ?_)))
          rw [bs_mk c, bs_mk r, toList_bs, toList_bs, bs_mk (lineL k c r), bs_append]
          congr 3
          rw [Bool.eq_iff_iff, beq_iff_eq, decide_eq_true_iff]
          rfl
        · intro h3
          exact ⟨by simpa only [bs_mk c, bs_mk r] using hg, by simpa only [bs_mk c, bs_mk r] using of_decide_eq_true h3⟩
        · rintro ⟨e, he⟩
          have hb := hno e he
          rw [ht, h1, body_split, List.append_assoc] at hb
          have hb2 := (List.cons.inj (List.append_cancel_left hb)).2
          have hrp := rec_parts he.1
          obtain ⟨g1, g2⟩ := span_inj hrp.2.2.2.1 h2 hb2
          rw [← g1, ← g2]
          exact decide_eq_true he.2
      · refine ⟨⟨c.toArray⟩, ⟨r.toArray⟩, false, hstart _ ?_, (fun h => by cases h), ?_⟩
        · refine Ev.step (fun n => by rw [spec_l27Read.j0]) ?_
          rw [hasz]
          refine Ev.neg (by simp) (Ev.pos (by omega) (Ev.pos (by omega) ?_))
          rw [Int.toNat_natCast]
          refine Ev.bind e2 (Ev.pos (by simp only [List.length_cons]; omega) ?_)
          rw [rdOf_head, size_mk c, hrs, w64 (by omega) (by omega), show ((c.length : Int) + 1).toNat = c.length + 1 from by omega]
          rw [← hrs, hrr]
          refine Ev.neg (by omega) (Ev.pos (by omega) (Ev.pos (by omega) (Ev.bind (l27Good _ _ (by rw [size_mk c]; omega) (by rw [size_mk r]; omega)) ?_)))
          rw [bs_mk c, bs_mk r]
          exact Ev.neg hg (Ev.const rfl)
        · rintro ⟨e, he⟩
          exfalso
          have hb := hno e he
          rw [ht, h1, body_split, List.append_assoc] at hb
          have hb2 := (List.cons.inj (List.append_cancel_left hb)).2
          have hrp := rec_parts he.1
          obtain ⟨g1, g2⟩ := span_inj hrp.2.2.2.1 h2 hb2
          rw [← g1, ← g2] at hg
          exact hg he.1
    · have hn : ∀ b ∈ t, b ≠ 64 := fun b hb e => h (e ▸ hb)
      refine ⟨⟨#[]⟩, ⟨#[]⟩, false, hstart _ ?_, (fun h => by cases h), ?_⟩
      · refine Ev.step (fun n => by rw [spec_l27Read.j0]) ?_
        rw [hasz]
        refine Ev.neg (by simp) (Ev.pos (by omega) (Ev.pos (by omega) ?_))
        rw [Int.toNat_natCast]
        refine Ev.bind (l1Split_miss (s := a.extract ((Lib.itoa k).length + 1) a.size) (x := 64) (by omega) (by rw [hrest]; exact hn)) (Ev.pos (by simp) ?_)
        rw [rdOf_head]
        exact Ev.pos rfl (Ev.const rfl)
      · rintro ⟨e, he⟩
        exfalso
        have hb := hno e he
        rw [ht, body_split, List.append_assoc] at hb
        have hb2 : bs e.f0 ++ 64 :: bs e.f1 = t := (List.cons.inj (List.append_cancel_left hb)).2
        exact h (by rw [← hb2]; simp)
  · have hnone : ¬ ∃ e, IsRec k (bs s) e := by
      rintro ⟨e, he⟩
      refine hpre ⟨bs e.f0 ++ 64 :: bs e.f1, ?_⟩
      rw [← hno e he, body_split]; simp
    refine ⟨⟨#[]⟩, ⟨#[]⟩, false, ?_, (fun h => by cases h), fun h => absurd h hnone⟩
    have hj : Ev (fun n => spec_l27Read.j0 n s k ((⟨(Lib.itoa k).toArray⟩ : ByteArray) ++ (⟨#[32]⟩ : ByteArray)) a true) (⟨#[]⟩, ⟨#[]⟩, false) := by
      refine Ev.step (fun n => by rw [spec_l27Read.j0]) ?_
      exact Ev.pos rfl (Ev.const rfl)
    unfold spec_l27Read.f
    refine Ev.bindc (l1Num_f k hk (by omega)) (Ev.pos (by rw [size_mk (Lib.itoa k)]; omega) (Ev.bind hp (Ev.pos (by simp only [List.length_cons]; omega) ?_)))
    rw [rdOf_head]
    refine Ev.cases (fun _ => hj) (fun h3 => Ev.pos (by omega) (Ev.pos (by omega) ?_))
    have : (((a.extract 0 ((((⟨(Lib.itoa k).toArray⟩ : ByteArray) ++ (⟨#[32]⟩ : ByteArray)).size : Int)).toNat).toList) != (((⟨(Lib.itoa k).toArray⟩ : ByteArray) ++ (⟨#[32]⟩ : ByteArray)).toList)) = true := by
      rw [bne_iff_ne, toList_bs, toList_bs, hahead, bs_extract, hasz, Int.toNat_natCast, List.drop_zero]
      intro h4
      refine hpre ⟨(bs a).drop ((Lib.itoa k).length + 1), ?_⟩
      rw [← h4, Nat.sub_zero, List.take_append_drop]
    rw [this]
    exact hj
theorem l27Open_l0 (s : ByteArray) (hs : s.size ≤ 1073741824) : ∀ (n : Nat) (o : List Rec) (p : Nat), o.length + n = 60 → p ≤ s.size →
    Ev (fun k => spec_l27Open.l0 k s o (p : Int)) (o ++ (readL n (o.length : Int) ((bs s).drop p)).1, ((p + (readL n (o.length : Int) ((bs s).drop p)).2 : Nat) : Int)) := by
  have hl := bs_size s
  intro n
  induction n with
  | zero =>
    intro o p ho hp
    refine Ev.step (fun k => by rw [spec_l27Open.l0]) ?_
    have hj : ∀ b : Bool, b = false → Ev (fun k => spec_l27Open.j1 k s o (p : Int) b) (o ++ (readL 0 (o.length : Int) ((bs s).drop p)).1, ((p + (readL 0 (o.length : Int) ((bs s).drop p)).2 : Nat) : Int)) := by
      rintro b rfl
      refine Ev.step (fun k => by rw [spec_l27Open.j1]) ?_
      exact Ev.neg (by simp) (Ev.const (by simp [readL]))
    exact Ev.cases (fun h => hj _ (decide_eq_false (by omega))) (fun h => hj _ rfl)
  | succ n ih =>
    intro o p ho hp
    have hx : bs (s.extract p s.size) = (bs s).drop p := by
      rw [bs_extract]; exact List.take_of_length_le (by rw [List.length_drop]; omega)
    have hxs : (s.extract p s.size).size ≤ s.size := by rw [← bs_size, hx, List.length_drop]; omega
    refine Ev.step (fun k => by rw [spec_l27Open.l0]) ?_
    refine Ev.cases (fun hpp => ?_) (fun hpp => ?_)
    · rw [decide_eq_true (by omega)]
      refine Ev.step (fun k => by rw [spec_l27Open.j1]) ?_
      refine Ev.pos rfl (Ev.pos (by omega) (Ev.pos (by omega) ?_))
      rw [Int.toNat_natCast]
      by_cases h : (10 : UInt8) ∈ (bs s).drop p
      · obtain ⟨a, t, h1, h2⟩ := span_at 10 _ h
        have hl1 := congrArg List.length h1
        rw [List.length_drop] at hl1
        simp only [List.length_append, List.length_cons] at hl1
        obtain ⟨l, hll, e⟩ := l1Split_hit (s := s.extract p s.size) (x := 10) (by omega) (hx.trans h1) h2
        refine Ev.bind e (Ev.pos (by simp only [List.length_cons]; omega) ?_)
        rw [rdOf_head]
        obtain ⟨c, r, ok, hr1, hr2, hr3⟩ := l27Read ⟨a.toArray⟩ (by rw [size_mk a]; omega) (o.length : Int) (by omega) (by omega)
        rw [bs_mk a] at hr2 hr3
        refine Ev.bind hr1 (Ev.neg (by simp only [List.length_cons]; omega) ?_)
        by_cases hok : ok = true
        · have he := hr2 hok
          refine Ev.pos hok (Ev.pos (by omega) ?_)
          rw [h1, readL_hit (by omega) h2 he, size_mk a, w64 (x := (p : Int) + (a.length : Int)) (by omega) (by omega), w64 (by omega) (by omega), show (p : Int) + (a.length : Int) + 1 = ((p + (a.length + 1) : Nat) : Int) from by omega]
          have i := ih (o ++ [⟨c, r⟩]) (p + (a.length + 1)) (by simp; omega) (by omega)
          have hd : (bs s).drop (p + (a.length + 1)) = t := by
            rw [← List.drop_drop, h1, show a ++ 10 :: t = (a ++ [10]) ++ t from by simp, List.drop_append_of_le_length (by simp), List.drop_of_length_le (by simp), List.nil_append]
          rw [hd, show (((o ++ [(⟨c, r⟩ : Rec)]).length : Nat) : Int) = (o.length : Int) + 1 from by simp] at i
          refine Ev.eq i ?_
          simp only [List.append_assoc, List.singleton_append, Prod.mk.injEq, true_and]
          omega
        · rw [h1, readL_bad h2 (fun h5 => hok (hr3 h5)), List.append_nil, Nat.add_zero]
          exact Ev.neg hok (Ev.const rfl)
      · have hn : ∀ b ∈ (bs s).drop p, b ≠ 10 := fun b hb e => h (e ▸ hb)
        rw [readL_end hn, List.append_nil, Nat.add_zero]
        refine Ev.bind (l1Split_miss (s := s.extract p s.size) (x := 10) (by omega) (by rw [hx]; exact hn)) (Ev.pos (by simp only [List.length_cons]; omega) ?_)
        rw [rdOf_head]
        obtain ⟨c, r, ok, hr1, _⟩ := l27Read (s.extract p s.size) (by omega) (o.length : Int) (by omega) (by omega)
        exact Ev.bind hr1 (Ev.pos (by simp) (Ev.const rfl))
    · refine Ev.step (fun k => by rw [spec_l27Open.j1]) ?_
      refine Ev.neg (by simp) (Ev.const ?_)
      rw [List.drop_of_length_le (by omega), readL_end (by simp)]; simp
theorem l27Open (s : ByteArray) (hs : s.size ≤ 1073741824) : Ev (fun k => spec_l27Open.f k s) ((readL 60 0 (bs s)).1, ((readL 60 0 (bs s)).2 : Int)) := by
  unfold spec_l27Open.f
  exact Ev.eq (l27Open_l0 s hs 60 [] 0 rfl (by omega)) (by simp)
end Go.Proofs.YtlnlabndaikbnaaGreatDoor.Pure

/- Logs: the program's functions and the reference's. -/
namespace Go.Proofs.YtlnlabndaikbnaaGreatDoor.Pure
open Go.RowKit Go.Proofs.YtlnlabndaikbnaaGreatDoor.P Go.Proofs.YtlnlabndaikbnaaGreatDoorW.PrintWords Go.Proofs.YtlnlabndaikbnaaGreatDoorW.PrintLast

/-- A valid log. -/
noncomputable def validB (a b : ByteArray) (n : Int) : Bool := (decide (((readL 60 0 (bs (a ++ b))).2 : Int) = (a.size : Int) + (b.size : Int)) && decide (n = ((readL 60 0 (bs (a ++ b))).1.length : Int))) && decide (((readL 60 0 (bs a)).2 : Int) = (a.size : Int))
theorem readL_small (l : List UInt8) : (readL 60 0 l).2 ≤ 25200 ∧ (readL 60 0 l).1.length ≤ 60 ∧ (readL 60 0 l).2 ≤ l.length := by
  have h := readL_le 60 0 l (by omega) (by omega)
  omega
theorem validB_small {a b : ByteArray} {n : Int} (h : validB a b n = true) : (a.size : Int) + (b.size : Int) ≤ 25200 ∧ 0 ≤ n ∧ n ≤ 60 := by
  simp only [validB, Bool.and_eq_true, decide_eq_true_eq] at h
  have := readL_small (bs (a ++ b))
  omega
theorem isValidLog (a b : ByteArray) (n : Int) (hs : a.size + b.size ≤ 1048576) : Ev (fun k => impl_IsValidLog.f k a b n) (validB a b n) := by
  have hab : (a ++ b).size = a.size + b.size := ByteArray.size_append
  unfold impl_IsValidLog.f validB
  refine Ev.pos (by omega) (Ev.bind (readRecords (a ++ b) (by omega)) ?_)
  rw [w64 (by omega) (by omega)]
  refine Ev.cases (fun h => ?_) (fun h => ?_)
  · have h' := h
    simp only at h'
    refine Ev.cases (fun h2 => ?_) (fun h2 => ?_)
    · refine Ev.bind (readRecords a (by omega)) (Ev.const ?_)
      rw [decide_eq_true h', decide_eq_true h2]; rfl
    · exact Ev.const (by rw [decide_eq_false h2, Bool.and_false]; rfl)
  · exact Ev.const (by rw [decide_eq_false h]; rfl)
theorem l27Log (a b : ByteArray) (n : Int) (hs : a.size + b.size ≤ 1048576) : Ev (fun k => spec_l27Log.f k a b n) (validB a b n) := by
  have hab : (a ++ b).size = a.size + b.size := ByteArray.size_append
  unfold spec_l27Log.f
  rw [w64 (by omega) (by omega)]
  refine Ev.cases (fun h => ?_) (fun h => ?_)
  · refine Ev.const ?_
    have : validB a b n = false := by
      rw [Bool.eq_false_iff]; intro h2
      have := validB_small h2
      omega
    rw [this]
  · unfold validB
    refine Ev.pos (by omega) (Ev.bind (l27Open (a ++ b) (by omega)) (Ev.bind (l27Open a (by omega)) ?_))
    refine Ev.cases (fun h => ?_) (fun h => ?_)
    · have h' := h
      simp only at h'
      refine Ev.cases (fun h2 => ?_) (fun h2 => ?_)
      · have h2' := h2
        simp only at h2'
        refine Ev.const ?_
        rw [decide_eq_true h', decide_eq_true h2', Bool.and_true, Bool.true_and]
        congr 1
        rw [Bool.eq_iff_iff, beq_iff_eq, decide_eq_true_iff]
        exact eq_comm
      · exact Ev.const (by rw [decide_eq_false h2, Bool.and_false])
    · exact Ev.const (by rw [decide_eq_false h]; rfl)
end Go.Proofs.YtlnlabndaikbnaaGreatDoor.Pure

/- What the laws do to logs: sizes and equality. -/
namespace Go.Proofs.YtlnlabndaikbnaaGreatDoor.Pure
open Go.RowKit Go.Proofs.YtlnlabndaikbnaaGreatDoor.P Go.Proofs.YtlnlabndaikbnaaGreatDoorW.PrintWords Go.Proofs.YtlnlabndaikbnaaGreatDoorW.PrintLast

theorem szLog_f (a b : ByteArray) (n m : Int) (ha : a.size ≤ 9223372036854775807) (hb : b.size ≤ 9223372036854775807) (hm : 0 ≤ m ∧ m ≤ 1048576) : ∃ t, laws_szLog.f a b n m = some t ∧ (t < 0 ∨ (a.size : Int) + (b.size : Int) + t = m ∧ 0 ≤ t) := by
  unfold laws_szLog.f
  by_cases h : m - (a.size : Int) < 0
  · rw [w64 (x := m - (a.size : Int)) (by omega) (by omega), if_pos h]
    exact ⟨_, rfl, .inl (by omega)⟩
  · rw [w64 (x := m - (a.size : Int)) (by omega) (by omega), if_neg h, w64 (by omega) (by omega)]
    by_cases h2 : m - (a.size : Int) - (b.size : Int) < 0
    · rw [if_pos h2]; exact ⟨_, rfl, .inl (by omega)⟩
    · rw [if_neg h2]; exact ⟨_, rfl, .inr (by omega)⟩
end Go.Proofs.YtlnlabndaikbnaaGreatDoor.Pure

/- What the laws on consoles share: validity, their sizes, copies, equality. -/
namespace Go.Proofs.YtlnlabndaikbnaaGreatDoor.Pure
open Go.RowKit Go.Proofs.YtlnlabndaikbnaaGreatDoor.P Go.Proofs.YtlnlabndaikbnaaGreatDoorW.PrintWords Go.Proofs.YtlnlabndaikbnaaGreatDoorW.PrintLast
set_option linter.unusedVariables false

noncomputable def consoleB (l : List S73) (a b : ByteArray) (n : Int) : Bool := consB l && validB a b n
theorem console_impl (l : List S73) (a b : ByteArray) (n : Int) (hl : l.length ≤ 1048577) (hs : a.size + b.size ≤ 1048576) : Ev (fun k => impl_IsValidConsole.f k l a b n) (consoleB l a b n) := by
  unfold impl_IsValidConsole.f consoleB
  refine Ev.bind (consI l hl) (Ev.cases (fun h => ?_) (fun h => ?_))
  · rw [h, Bool.true_and]
    exact Ev.bind (isValidLog a b n hs) (Ev.now _)
  · rw [Bool.eq_false_iff.mpr h]; exact Ev.now _
theorem l28_spec (l : List S73) (a b : ByteArray) (n : Int) (hs : a.size + b.size ≤ 1048576) : Ev (fun k => spec_l28Good.f k l a b n) (consoleB l a b n) := by
  unfold spec_l28Good.f consoleB
  refine Ev.bind (consS l) (Ev.cases (fun h => ?_) (fun h => ?_))
  · rw [h, Bool.true_and]
    exact Ev.bind (l27Log a b n hs) (Ev.now _)
  · rw [Bool.eq_false_iff.mpr h]; exact Ev.now _
theorem szConsole_ok (l : List S78) (a b : ByteArray) (n : Int) (hm : l.length ≤ 9223372036854775807) (ha : a.size ≤ 9223372036854775807) (hb : b.size ≤ 9223372036854775807) : ∃ t, laws_szConsole.f l a b n 1048576 = some t ∧ (¬ t < 0 → l.length ≤ 1048576 ∧ a.size + b.size ≤ 1048576) := by
  unfold laws_szConsole.f laws_szWarningS.f
  rw [w64 (x := 1048576 - (l.length : Int)) (by omega) (by omega)]
  by_cases h : 1048576 - (l.length : Int) < 0
  · rw [if_pos h]; exact ⟨-1, by simp, by omega⟩
  · rw [if_neg h]
    simp only [Option.bind_some]
    rw [if_neg h]
    obtain ⟨u, hu, hc⟩ := szLog_f a b n (1048576 - (l.length : Int)) ha hb (by omega)
    rw [hu]
    simp only [Option.bind_some]
    by_cases h2 : u < 0
    · rw [if_pos h2]; exact ⟨-1, rfl, by omega⟩
    · rw [if_neg h2]; exact ⟨u, rfl, by omega⟩
theorem toConsole_ok (l : List S78) (a b : ByteArray) (n : Int) (hl : l.length ≤ 1048576) : Ev (fun k => laws_toConsole.f k l a b n) (l.map convW, a, b, n) := by
  unfold laws_toConsole.f
  exact Ev.bind (toWarningS l hl) (Ev.bindc rfl (Ev.now _))
theorem eqConsole_refl (l : List S73) (a b : ByteArray) (n : Int) (hl : l.length ≤ 1048577) : Ev (fun k => laws_eqConsole.f k l a b n l a b n) true := by
  unfold laws_eqConsole.f
  exact Ev.bind (eqWarning_refl _ (by omega)) (Ev.pos rfl (Ev.bindc (b := true) (by unfold laws_eqLog.f; simp) (Ev.pos rfl (Ev.now _))))
end Go.Proofs.YtlnlabndaikbnaaGreatDoor.Pure

/- The line of a warning: of the program and of the reference. -/
namespace Go.Proofs.YtlnlabndaikbnaaGreatDoor.Pure
open Go.RowKit Go.Proofs.YtlnlabndaikbnaaGreatDoor.P Go.Proofs.YtlnlabndaikbnaaGreatDoorW.PrintWords Go.Proofs.YtlnlabndaikbnaaGreatDoorW.PrintLast
set_option linter.unusedVariables false
set_option linter.unusedSimpArgs false

def itB (n : Int) : ByteArray := ⟨(Lib.itoa n).toArray⟩
theorem itB_len {n : Int} : (itB n).size = (Lib.itoa n).length := by simp [itB, ByteArray.size]
theorem itB_size {n : Int} (h0 : 0 ≤ n) (h1 : n ≤ 9223372036854775807) : (itB n).size ≤ 21 := by
  rw [itB_len]; exact Lib.itoa_length_le n (by omega) h1
theorem numW {n : Int} (h0 : 0 ≤ n) (h1 : n ≤ 9223372036854775807) : spec_l1Num.f n = some (itB n) := by
  unfold spec_l1Num.f itB; rw [if_pos h0, if_pos h1]
theorem itoaW {n : Int} (h0 : 0 ≤ n) (h1 : n ≤ 9223372036854775807) : strconv_Itoa.f n = some (itB n) := by
  unfold strconv_Itoa.f itB; rw [if_pos (by omega), if_pos h1]
/-! ### numbers joined -/
def joinI (l : List Int) (sep : ByteArray) : ByteArray := ⟨(Lib.join (l.map Lib.itoa) sep.data.toList).toArray⟩
theorem join_len (sep : List UInt8) : ∀ l : List Int, (∀ x ∈ l, 0 ≤ x ∧ x ≤ 9223372036854775807) → (Lib.joinTail sep (l.map Lib.itoa)).length ≤ (sep.length + 21) * l.length
  | [], _ => by simp [Lib.joinTail]
  | x :: l, h => by
    have ih := join_len sep l (fun y hy => h y (by simp [hy]))
    have hx := h x (by simp)
    have := Lib.itoa_length_le x (by omega) hx.2
    simp only [Lib.joinTail, List.map_cons, List.flatten_cons, List.length_append, List.length_cons] at ih ⊢
    rw [Nat.mul_add, Nat.mul_one]
    omega
theorem joinI_len {l : List Int} (h : ∀ x ∈ l, 0 ≤ x ∧ x ≤ 9223372036854775807) (sep : List UInt8) : (Lib.join (l.map Lib.itoa) sep).length ≤ (sep.length + 21) * l.length := by
  cases l with
  | nil => simp [Lib.join_nil]
  | cons x l =>
    have hx := h x (by simp)
    have h1 := Lib.itoa_length_le x (by omega) hx.2
    have h2 := join_len sep l (fun y hy => h y (by simp [hy]))
    rw [List.map_cons, Lib.join_cons, List.length_append, List.length_cons, Nat.mul_add, Nat.mul_one]
    omega
theorem joinInts_l0 (l : List Int) (hl : l.length ≤ 1000) (h : ∀ x ∈ l, 0 ≤ x ∧ x ≤ 9223372036854775807) (sep : ByteArray) (hs : sep.size ≤ 100) : ∀ (d i : Nat), l.length - i = d → i ≤ l.length →
    Ev (fun k => impl_joinInts.l0 k sep ((l.take i).map itB ++ List.replicate (l.length - i) ⟨#[]⟩) l (l.length : Int) (i : Int)) (joinI l sep) := by
  intro d
  induction d with
  | zero =>
    intro i hd hi
    obtain rfl : i = l.length := by omega
    refine Ev.step (fun k => by rw [impl_joinInts.l0]) (Ev.neg (by omega) ?_)
    have e : ((l.take l.length).map itB ++ List.replicate (l.length - l.length) (⟨#[]⟩ : ByteArray)) = l.map itB := by simp
    rw [e]
    have e2 : (l.map itB).map (fun x : ByteArray => x.data.toList) = l.map Lib.itoa := by rw [List.map_map]; exact List.map_congr_left fun x _ => rfl
    have hj := joinI_len h sep.data.toList
    have hz : sep.data.toList.length ≤ 100 := by rw [Array.length_toList]; exact hs
    refine Ev.bindc (b := (joinI l sep, l.map itB)) ?_ (Ev.now _)
    unfold strings_Join.f joinS
    rw [e2, if_pos ⟨by rw [List.length_map]; omega, Nat.le_trans hj (Nat.le_trans (Nat.mul_le_mul (Nat.add_le_add_right hz 21) hl) (by decide))⟩]
    rfl
  | succ d ih =>
    intro i hd hi
    have hlt : i < l.length := by omega
    have hx := h l[i] (List.getElem_mem hlt)
    refine Ev.step (fun k => by rw [impl_joinInts.l0]) ?_
    rw [rd_lt l i hlt, w64 (x := (i : Int) + 1) (by omega) (by omega), show (i : Int) + 1 = ((i + 1 : Nat) : Int) from by omega, Int.toNat_natCast]
    refine Ev.pos (by omega) (Ev.pos (by omega) (Ev.pos (by omega) (Ev.bindc (itoaW hx.1 hx.2) (Ev.pos (by rw [List.length_append, List.length_map, List.length_take, List.length_replicate]; omega) ?_))))
    have e : (((l.take i).map itB ++ List.replicate (l.length - i) (⟨#[]⟩ : ByteArray)).set i (itB l[i])) = (l.take (i + 1)).map itB ++ List.replicate (l.length - (i + 1)) ⟨#[]⟩ := by
      rw [show l.length - i = (l.length - (i + 1)) + 1 by omega, List.replicate_succ, List.set_append_right _ _ (by simp; omega), take_succ' l i hlt, List.map_append]
      have : i - ((l.take i).map itB).length = 0 := by simp; omega
      rw [this]; simp
    rw [e]
    exact ih (i + 1) (by omega) (by omega)
theorem joinInts_ev (l : List Int) (hl : l.length ≤ 1000) (h : ∀ x ∈ l, 0 ≤ x ∧ x ≤ 9223372036854775807) (sep : ByteArray) (hs : sep.size ≤ 100) : Ev (fun k => impl_joinInts.f k l sep) (joinI l sep) := by
  unfold impl_joinInts.f
  refine Ev.pos (by omega) (Ev.pos (by omega) ?_)
  have := joinInts_l0 l hl h sep hs _ 0 rfl (by omega)
  simpa using this
theorem joinI_two (a b : Int) (sep : ByteArray) : joinI [a, b] sep = (itB a ++ sep) ++ itB b := by
  refine bs_inj ?_
  rw [bs_append, bs_append]
  simp [joinI, itB, Lib.join_cons, Lib.joinTail, bs]
/-! ### the words -/
def lvlW (n : Int) : ByteArray := rdOf ByteArray.empty [(⟨#[]⟩ : ByteArray), ⟨#[121, 101, 108, 108, 111, 119]⟩, ⟨#[111, 114, 97, 110, 103, 101]⟩, ⟨#[114, 101, 100]⟩] n
def tpcW (n : Int) : ByteArray := rdOf ByteArray.empty topicL n
theorem lvl_lower {n : Int} (h : 1 ≤ n ∧ n ≤ 3) : strings_ToLower.f (rdOf ByteArray.empty levelL n) = some (lvlW n) ∧ (lvlW n).size ≤ 6 := by
  have : n = 1 ∨ n = 2 ∨ n = 3 := by omega
  rcases this with rfl | rfl | rfl <;> exact ⟨by decide, by decide⟩
theorem tpc_size {n : Int} (h : 1 ≤ n ∧ n ≤ 5) : (tpcW n).size ≤ 5 := by
  have : n = 1 ∨ n = 2 ∨ n = 3 ∨ n = 4 ∨ n = 5 := by omega
  rcases this with rfl | rfl | rfl | rfl | rfl <;> decide
/-! ### the line -/
def lineT (z : S73) : ByteArray := (((((((((itB z.f0 ++ (⟨#[58, 32]⟩ : ByteArray)) ++ lvlW z.f2) ++ (⟨#[32]⟩ : ByteArray)) ++ tpcW z.f1) ++ (⟨#[44, 32, 97, 114, 101, 97, 32]⟩ : ByteArray)) ++ itB z.f3) ++ (⟨#[44, 32, 104, 111, 117, 114, 115, 32]⟩ : ByteArray)) ++ itB z.f4) ++ (⟨#[45]⟩ : ByteArray)) ++ itB z.f5
theorem sz2 : (⟨#[58, 32]⟩ : ByteArray).size = 2 := rfl
theorem sz1 : (⟨#[32]⟩ : ByteArray).size = 1 := rfl
theorem sz7 : (⟨#[44, 32, 97, 114, 101, 97, 32]⟩ : ByteArray).size = 7 := rfl
theorem sz8 : (⟨#[44, 32, 104, 111, 117, 114, 115, 32]⟩ : ByteArray).size = 8 := rfl
theorem sz1d : (⟨#[45]⟩ : ByteArray).size = 1 := rfl
theorem good_sizes {z : S73} (h : GoodW z) : (itB z.f0).size ≤ 21 ∧ (itB z.f3).size ≤ 21 ∧ (itB z.f4).size ≤ 21 ∧ (itB z.f5).size ≤ 21 ∧ (lvlW z.f2).size ≤ 6 ∧ (tpcW z.f1).size ≤ 5 := by
  unfold GoodW at h
  exact ⟨itB_size (by omega) (by omega), itB_size (by omega) (by omega), itB_size (by omega) (by omega), itB_size (by omega) (by omega), (lvl_lower (by omega)).2, tpc_size (by omega)⟩
theorem line_size {z : S73} (h : GoodW z) : (lineT z).size ≤ 200 := by
  have := good_sizes h
  simp only [lineT, ByteArray.size_append, sz2, sz1, sz7, sz8, sz1d]
  omega
theorem line_spec {z : S73} (h : GoodW z) : spec_l17Line.f z.f0 z.f1 z.f2 z.f3 z.f4 z.f5 = some (lineT z) := by
  have hs := good_sizes h
  have hg := h
  unfold GoodW at hg
  unfold spec_l17Line.f spec_l17Levels.f spec_l17Topics.f
  rw [numW (n := z.f0) (by omega) (by omega), numW (n := z.f3) (by omega) (by omega), numW (n := z.f4) (by omega) (by omega), numW (n := z.f5) (by omega) (by omega)]
  simp only [Option.bind_some]
  rw [if_pos (by omega), if_pos (by omega), if_pos (by simp; omega)]
  change (if ((itB z.f0 ++ (⟨#[58, 32]⟩ : ByteArray)).size + (lvlW z.f2).size ≤ 9223372036854775807) then _ else none) = _
  rw [if_pos (by simp only [ByteArray.size_append, sz2]; omega)]
  change (if (((itB z.f0 ++ (⟨#[58, 32]⟩ : ByteArray)) ++ lvlW z.f2).size + 1 ≤ 9223372036854775807) then _ else none) = _
  rw [if_pos (by simp only [ByteArray.size_append, sz2]; omega), if_pos (by omega), if_pos (by simp; omega)]
  change (if ((((itB z.f0 ++ (⟨#[58, 32]⟩ : ByteArray)) ++ lvlW z.f2) ++ (⟨#[32]⟩ : ByteArray)).size + (tpcW z.f1).size ≤ 9223372036854775807) then _ else none) = _
  rw [if_pos (by simp only [ByteArray.size_append, sz2, sz1]; omega)]
  change (if (((((itB z.f0 ++ (⟨#[58, 32]⟩ : ByteArray)) ++ lvlW z.f2) ++ (⟨#[32]⟩ : ByteArray)) ++ tpcW z.f1).size + 7 ≤ 9223372036854775807) then _ else none) = _
  rw [if_pos (by simp only [ByteArray.size_append, sz2, sz1]; omega)]
  change (if ((((((itB z.f0 ++ (⟨#[58, 32]⟩ : ByteArray)) ++ lvlW z.f2) ++ (⟨#[32]⟩ : ByteArray)) ++ tpcW z.f1) ++ (⟨#[44, 32, 97, 114, 101, 97, 32]⟩ : ByteArray)).size + (itB z.f3).size ≤ 9223372036854775807) then _ else none) = _
  rw [if_pos (by simp only [ByteArray.size_append, sz2, sz1, sz7]; omega)]
  change (if (((((((itB z.f0 ++ (⟨#[58, 32]⟩ : ByteArray)) ++ lvlW z.f2) ++ (⟨#[32]⟩ : ByteArray)) ++ tpcW z.f1) ++ (⟨#[44, 32, 97, 114, 101, 97, 32]⟩ : ByteArray)) ++ itB z.f3).size + 8 ≤ 9223372036854775807) then _ else none) = _
  rw [if_pos (by simp only [ByteArray.size_append, sz2, sz1, sz7]; omega)]
  change (if ((((((((itB z.f0 ++ (⟨#[58, 32]⟩ : ByteArray)) ++ lvlW z.f2) ++ (⟨#[32]⟩ : ByteArray)) ++ tpcW z.f1) ++ (⟨#[44, 32, 97, 114, 101, 97, 32]⟩ : ByteArray)) ++ itB z.f3) ++ (⟨#[44, 32, 104, 111, 117, 114, 115, 32]⟩ : ByteArray)).size + (itB z.f4).size ≤ 9223372036854775807) then _ else none) = _
  rw [if_pos (by simp only [ByteArray.size_append, sz2, sz1, sz7, sz8]; omega)]
  change (if (((((((((itB z.f0 ++ (⟨#[58, 32]⟩ : ByteArray)) ++ lvlW z.f2) ++ (⟨#[32]⟩ : ByteArray)) ++ tpcW z.f1) ++ (⟨#[44, 32, 97, 114, 101, 97, 32]⟩ : ByteArray)) ++ itB z.f3) ++ (⟨#[44, 32, 104, 111, 117, 114, 115, 32]⟩ : ByteArray)) ++ itB z.f4).size + 1 ≤ 9223372036854775807) then _ else none) = _
  rw [if_pos (by simp only [ByteArray.size_append, sz2, sz1, sz7, sz8]; omega)]
  exact if_pos (by change (((((((((itB z.f0 ++ (⟨#[58, 32]⟩ : ByteArray)) ++ lvlW z.f2) ++ (⟨#[32]⟩ : ByteArray)) ++ tpcW z.f1) ++ (⟨#[44, 32, 97, 114, 101, 97, 32]⟩ : ByteArray)) ++ itB z.f3) ++ (⟨#[44, 32, 104, 111, 117, 114, 115, 32]⟩ : ByteArray)) ++ itB z.f4) ++ (⟨#[45]⟩ : ByteArray)).size + (itB z.f5).size ≤ 9223372036854775807; simp only [ByteArray.size_append, sz2, sz1, sz7, sz8, sz1d]; omega)
theorem line_impl {z : S73} (h : GoodW z) : Ev (fun k => impl_warningLine.f k z.f0 z.f1 z.f2 z.f3 z.f4 z.f5) (lineT z) := by
  have hs := good_sizes h
  have hg := h
  unfold GoodW at hg
  have hj := joinInts_ev [z.f4, z.f5] (by simp) (by simp; omega) ⟨#[45]⟩ (by decide)
  rw [joinI_two] at hj
  have hjs : ((itB z.f4 ++ (⟨#[45]⟩ : ByteArray)) ++ itB z.f5).size ≤ 43 := by simp only [ByteArray.size_append, sz1d]; omega
  unfold impl_warningLine.f impl_warningLine_v.f
  refine Ev.bindc (itoaW (n := z.f0) (by omega) (by omega)) (Ev.pos (by omega) (Ev.pos (by omega) (Ev.pos (by simp [levelL]; omega) (Ev.bindc (lvl_lower (n := z.f2) (by omega)).1 ?_))))
  refine Ev.pos (by simp only [ByteArray.size_append, sz2]; omega) (Ev.pos (by simp only [ByteArray.size_append, sz2]; omega) (Ev.pos (by omega) (Ev.pos (by simp [topicL]; omega) ?_)))
  change Ev (fun k => if (((itB z.f0 ++ (⟨#[58, 32]⟩ : ByteArray)) ++ lvlW z.f2) ++ (⟨#[32]⟩ : ByteArray)).size + (tpcW z.f1).size ≤ 9223372036854775807 then _ else none) _
  refine Ev.pos (by simp only [ByteArray.size_append, sz2, sz1]; omega) ?_
  change Ev (fun k => if ((((itB z.f0 ++ (⟨#[58, 32]⟩ : ByteArray)) ++ lvlW z.f2) ++ (⟨#[32]⟩ : ByteArray)) ++ tpcW z.f1).size + 7 ≤ 9223372036854775807 then _ else none) _
  refine Ev.pos (by simp only [ByteArray.size_append, sz2, sz1]; omega) (Ev.bindc (itoaW (n := z.f3) (by omega) (by omega)) ?_)
  change Ev (fun k => if (((((itB z.f0 ++ (⟨#[58, 32]⟩ : ByteArray)) ++ lvlW z.f2) ++ (⟨#[32]⟩ : ByteArray)) ++ tpcW z.f1) ++ (⟨#[44, 32, 97, 114, 101, 97, 32]⟩ : ByteArray)).size + (itB z.f3).size ≤ 9223372036854775807 then _ else none) _
  refine Ev.pos (by simp only [ByteArray.size_append, sz2, sz1, sz7]; omega) ?_
  change Ev (fun k => if ((((((itB z.f0 ++ (⟨#[58, 32]⟩ : ByteArray)) ++ lvlW z.f2) ++ (⟨#[32]⟩ : ByteArray)) ++ tpcW z.f1) ++ (⟨#[44, 32, 97, 114, 101, 97, 32]⟩ : ByteArray)) ++ itB z.f3).size + 8 ≤ 9223372036854775807 then _ else none) _
  refine Ev.pos (by simp only [ByteArray.size_append, sz2, sz1, sz7]; omega) (Ev.bind hj ?_)
  change Ev (fun k => if (((((((itB z.f0 ++ (⟨#[58, 32]⟩ : ByteArray)) ++ lvlW z.f2) ++ (⟨#[32]⟩ : ByteArray)) ++ tpcW z.f1) ++ (⟨#[44, 32, 97, 114, 101, 97, 32]⟩ : ByteArray)) ++ itB z.f3) ++ (⟨#[44, 32, 104, 111, 117, 114, 115, 32]⟩ : ByteArray)).size + ((itB z.f4 ++ (⟨#[45]⟩ : ByteArray)) ++ itB z.f5).size ≤ 9223372036854775807 then some ((((((((itB z.f0 ++ (⟨#[58, 32]⟩ : ByteArray)) ++ lvlW z.f2) ++ (⟨#[32]⟩ : ByteArray)) ++ tpcW z.f1) ++ (⟨#[44, 32, 97, 114, 101, 97, 32]⟩ : ByteArray)) ++ itB z.f3) ++ (⟨#[44, 32, 104, 111, 117, 114, 115, 32]⟩ : ByteArray)) ++ ((itB z.f4 ++ (⟨#[45]⟩ : ByteArray)) ++ itB z.f5)) else none) _
  refine Ev.pos (by simp only [ByteArray.size_append, sz2, sz1, sz7, sz8, sz1d]; omega) (Ev.const ?_)
  congr 1
  simp only [lineT, ByteArray.append_assoc]
end Go.Proofs.YtlnlabndaikbnaaGreatDoor.Pure

/- FormatConsole: of the program and of the reference. -/
namespace Go.Proofs.YtlnlabndaikbnaaGreatDoor.Pure
open Go.RowKit Go.Proofs.YtlnlabndaikbnaaGreatDoor.P Go.Proofs.YtlnlabndaikbnaaGreatDoorW.PrintWords Go.Proofs.YtlnlabndaikbnaaGreatDoorW.PrintLast
set_option linter.unusedVariables false
set_option linter.unusedSimpArgs false

def nlB : ByteArray := ⟨#[10]⟩
def accT (l : List S73) : ByteArray := l.foldl (fun s z => (s ++ lineT z) ++ nlB) ⟨#[]⟩
def fcT (l : List S73) (n : Int) : ByteArray := (accT l ++ itB n) ++ nlB
theorem nlB_size : nlB.size = 1 := rfl
theorem accT_snoc (l : List S73) (z : S73) : accT (l ++ [z]) = (accT l ++ lineT z) ++ nlB := by simp [accT]
theorem cons_good {l : List S73} (hC : Cons l) : ∀ z ∈ l, GoodW z := fun z hz => by
  obtain ⟨i, hi, rfl⟩ := List.mem_iff_getElem.1 hz
  exact (hC.2 i hi).1
theorem accT_size {l : List S73} (hg : ∀ z ∈ l, GoodW z) : ∀ i, i ≤ l.length → (accT (l.take i)).size ≤ 201 * i
  | 0, _ => Nat.le_of_eq rfl
  | i + 1, h => by
    have ih := accT_size hg i (by omega)
    rw [take_succ' l i (by omega), accT_snoc, ByteArray.size_append, ByteArray.size_append, nlB_size]
    have := line_size (hg l[i] (List.getElem_mem _))
    omega
theorem fcS_l0 (l : List S73) (hC : Cons l) (a b : ByteArray) (n : Int) (hn : 0 ≤ n ∧ n ≤ 60) : ∀ (d i : Nat), l.length - i = d → i ≤ l.length →
    Ev (fun k => spec_FormatConsole.l0 k (accT (l.take i)) (i : Int) l a b n) (fcT l n, true) := by
  have hl := hC.1
  have hg := cons_good hC
  intro d
  induction d with
  | zero =>
    intro i hd hi
    obtain rfl : i = l.length := by omega
    have hs := accT_size hg l.length (Nat.le_refl _)
    have hi := itB_size (n := n) (by omega) (by omega)
    rw [List.take_length] at hs ⊢
    refine Ev.step (fun k => by rw [spec_FormatConsole.l0]) (Ev.neg (by omega) ?_)
    exact Ev.bindc (numW hn.1 (by omega)) (Ev.pos (by omega) (Ev.pos (by rw [ByteArray.size_append]; omega) (Ev.now _)))
  | succ d ih =>
    intro i hd hi
    have hlt : i < l.length := by omega
    have hs := accT_size hg i hi
    have hz := hg l[i] (List.getElem_mem hlt)
    have hls := line_size hz
    have ih := ih (i + 1) (by omega) (by omega)
    rw [take_succ' l i hlt, accT_snoc] at ih
    refine Ev.step (fun k => by rw [spec_FormatConsole.l0]) ?_
    rw [rdW_lt l i hlt, w64 (x := (i : Int) + 1) (by omega) (by omega), show (i : Int) + 1 = ((i + 1 : Nat) : Int) from by omega]
    exact Ev.pos (by omega) (Ev.pos (by omega) (Ev.bindc (line_spec hz) (Ev.pos (by omega) (Ev.pos (by rw [ByteArray.size_append]; omega) ih))))
theorem fcI_l0 (l : List S73) (hC : Cons l) (a b : ByteArray) (n : Int) (hn : 0 ≤ n ∧ n ≤ 60) : ∀ (d i : Nat), l.length - i = d → i ≤ l.length →
    Ev (fun k => impl_FormatConsole.l0 k (accT (l.take i)) l (l.length : Int) (i : Int) l a b n) (fcT l n, true) := by
  have hl := hC.1
  have hg := cons_good hC
  intro d
  induction d with
  | zero =>
    intro i hd hi
    obtain rfl : i = l.length := by omega
    have hs := accT_size hg l.length (Nat.le_refl _)
    have hi := itB_size (n := n) (by omega) (by omega)
    rw [List.take_length] at hs ⊢
    refine Ev.step (fun k => by rw [impl_FormatConsole.l0]) (Ev.neg (by omega) ?_)
    exact Ev.bindc (itoaW hn.1 (by omega)) (Ev.pos (by omega) (Ev.pos (by rw [ByteArray.size_append]; omega) (Ev.now _)))
  | succ d ih =>
    intro i hd hi
    have hlt : i < l.length := by omega
    have hs := accT_size hg i hi
    have hz := hg l[i] (List.getElem_mem hlt)
    have hls := line_size hz
    have ih := ih (i + 1) (by omega) (by omega)
    rw [take_succ' l i hlt, accT_snoc, ByteArray.append_assoc] at ih
    refine Ev.step (fun k => by rw [impl_FormatConsole.l0]) ?_
    rw [rdW_lt l i hlt, w64 (x := (i : Int) + 1) (by omega) (by omega), show (i : Int) + 1 = ((i + 1 : Nat) : Int) from by omega]
    refine Ev.pos (by omega) (Ev.pos (by omega) (Ev.pos (by omega) (Ev.bind (line_impl hz) (Ev.pos (by omega) (Ev.pos ?_ ih)))))
    rw [ByteArray.size_append]
    have : (⟨#[10]⟩ : ByteArray).size = 1 := rfl
    omega
noncomputable def fcR (l : List S73) (a b : ByteArray) (n : Int) : ByteArray × Bool := if consoleB l a b n = true then (fcT l n, true) else (⟨#[]⟩, false)
theorem consoleB_parts {l : List S73} {a b : ByteArray} {n : Int} (h : consoleB l a b n = true) : Cons l ∧ 0 ≤ n ∧ n ≤ 60 := by
  unfold consoleB at h
  simp only [Bool.and_eq_true] at h
  exact ⟨consB_true.1 h.1, (validB_small h.2).2⟩
theorem fc_spec (l : List S73) (a b : ByteArray) (n : Int) (hs : a.size + b.size ≤ 1048576) : Ev (fun k => spec_FormatConsole.f k l a b n) (fcR l a b n) := by
  unfold spec_FormatConsole.f fcR
  refine Ev.bind (l28_spec l a b n hs) (Ev.cases (fun h => ?_) (fun h => ?_))
  · rw [if_pos h]
    obtain ⟨hC, hn⟩ := consoleB_parts h
    exact fcS_l0 l hC a b n hn _ 0 rfl (by omega)
  · rw [if_neg h]; exact Ev.now _
theorem fc_impl (l : List S73) (a b : ByteArray) (n : Int) (hl : l.length ≤ 1048577) (hs : a.size + b.size ≤ 1048576) : Ev (fun k => impl_FormatConsole.f k l a b n) (fcR l a b n) := by
  unfold impl_FormatConsole.f fcR
  refine Ev.bind (console_impl l a b n hl hs) (Ev.cases (fun h => ?_) (fun h => ?_))
  · rw [if_pos h]
    obtain ⟨hC, hn⟩ := consoleB_parts h
    exact fcI_l0 l hC a b n hn _ 0 rfl (by omega)
  · rw [if_neg h]; exact Ev.now _
end Go.Proofs.YtlnlabndaikbnaaGreatDoor.Pure

namespace Go.Proofs.YtlnlabndaikbnaaGreatDoor.Pure
open Go.RowKit Go.Proofs.YtlnlabndaikbnaaGreatDoor.P Go.Proofs.YtlnlabndaikbnaaGreatDoorW.PrintWords Go.Proofs.YtlnlabndaikbnaaGreatDoorW.PrintLast
set_option linter.unusedVariables false

theorem FnExactFormatConsole (l : List S78) (a b : ByteArray) (n : Int) (hm0 : l.length ≤ maxLen) (_ : ∀ z ∈ l, (Lit.int .i64 z.f0).wf = true ∧ (Lit.int .i64 z.f1).wf = true ∧ (Lit.int .i64 z.f2).wf = true ∧ (Lit.int .i64 z.f3).wf = true ∧ (Lit.int .i64 z.f4).wf = true ∧ (Lit.int .i64 z.f5).wf = true)
    (ha0 : a.size ≤ maxLen) (hb0 : b.size ≤ maxLen) (_ : (Lit.int .i64 n).wf = true) : ∃ k, laws_FnExactFormatConsole.f k l a b n = some true := by
  have hm : l.length ≤ 9223372036854775807 := Nat.le_trans hm0 (by decide)
  have ha : a.size ≤ 9223372036854775807 := Nat.le_trans ha0 (by decide)
  have hb : b.size ≤ 9223372036854775807 := Nat.le_trans hb0 (by decide)
  apply Ev.rounds
  obtain ⟨t, ht, hl0⟩ := szConsole_ok l a b n hm ha hb
  unfold laws_FnExactFormatConsole.f
  refine Ev.bindc ht (Ev.cases (fun _ => Ev.now _) (fun ht0 => ?_))
  obtain ⟨hl, hs⟩ := hl0 ht0
  have hlen : (l.map convW).length ≤ 1048576 := by simpa using hl
  have td := toConsole_ok l a b n hl
  have eqC := eqConsole_refl (l.map convW) a b n (by omega)
  refine Ev.bind td (Ev.bind (fc_spec (l.map convW) a b n hs) (Ev.bind td (Ev.bind (fc_impl (l.map convW) a b n (by omega) hs) (Ev.pos rfl ?_))))
  refine Ev.step (fun k => by rw [laws_FnExactFormatConsole.j0]) ?_
  exact Ev.neg (by simp) (Ev.bind td (Ev.bind eqC (Ev.pos rfl (Ev.now _))))
end Go.Proofs.YtlnlabndaikbnaaGreatDoor.Pure
