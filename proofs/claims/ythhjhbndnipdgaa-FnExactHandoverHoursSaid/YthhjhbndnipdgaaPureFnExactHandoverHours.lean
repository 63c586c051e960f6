/- The program's HandoverHours returns what the reference's returns, for all arguments. Conditions: none beyond the given statement's. -/
import Derived.Test.YthhjhbndnipdgaaPx0
import Derived.Test.YthhjhbndnipdgaaPx9
import Derived.Test.YthhjhbndnipdgaaPx10
import Derived.Test.YthhjhbndnipdgaaPx25
import Derived.Test.YthhjhbndnipdgaaPx18
import Derived.Test.YthhjhbndnipdgaaPx8
import Derived.Test.YthhjhbndnipdgaaPx6
import Derived.Test.YthhjhbndnipdgaaPx13
import Derived.Lib.SlicesCompact
import Derived.Test.YthhjhbndnipdgaaPx15
import Derived.Test.YthhjhbndnipdgaaPx19
import Derived.Test.YthhjhbndnipdgaaPx21
import Derived.Test.YthhjhbndnipdgaaPx43
import Derived.Test.YthhjhbndnipdgaaPx23
import Derived.Test.YthhjhbndnipdgaaPx30
import Derived.Test.YthhjhbndnipdgaaPx28
import Derived.Test.YthhjhbndnipdgaaPx45
/- Small laws on "with enough rounds the function answers r" (Ev) and on wrapping sums; used by every plain law of this seat. -/
namespace Go.Proofs.Ythhjhbndnipdgaa.Pure
open Go.RowKit Go.Proofs.YthhjhbndnipdgaaW.PrintWords Go.Proofs.YthhjhbndnipdgaaW.PrintLast

section
variable {α β : Type} {r : α} {f g : Nat → Option α}
theorem Ev.pos {c : Prop} [Decidable c] (h : c) (e : Ev f r) : Ev (fun k => if c then f k else g k) r := e.congr fun _ => if_pos h
theorem Ev.neg {c : Prop} [Decidable c] (h : ¬ c) (e : Ev g r) : Ev (fun k => if c then f k else g k) r := e.congr fun _ => if_neg h
theorem Ev.const {a : Option α} (h : a = some r) : Ev (fun _ => a) r := ⟨0, fun _ _ => h⟩
theorem Ev.bindc {a : Option β} {b : β} {f : Nat → β → Option α} (h : a = some b) (k : Ev (fun n => f n b) r) : Ev (fun n => a.bind (f n)) r := Ev.bind (Ev.const h) k
theorem Ev.eq {r' : α} (h : Ev f r) (e : r = r') : Ev f r' := e ▸ h
theorem Ev.cases {c : Prop} [Decidable c] (h1 : c → Ev f r) (h2 : ¬ c → Ev g r) : Ev (fun k => if c then f k else g k) r := by
  by_cases h : c
  · exact Ev.pos h (h1 h)
  · exact Ev.neg h (h2 h)
/-- Two answers of one function are one. -/
theorem Ev.uniq {r' : α} (h : Ev f r) (h' : Ev f r') : r = r' := by
  obtain ⟨K, hK⟩ := h
  obtain ⟨K', hK'⟩ := h'
  have a := hK (max K K') (Nat.le_max_left _ _)
  have b := hK' (max K K') (Nat.le_max_right _ _)
  rw [a] at b
  exact Option.some.inj b
end

theorem w64 {x : Int} (h1 : -9223372036854775808 ≤ x) (h2 : x ≤ 9223372036854775807) : wrap64 x = x := by unfold wrap64; omega

theorem rd_nat (l : List Int) (i : Nat) : rd l (i : Int) = l.getD i 0 := by simp [rd]
theorem rd_lt (l : List Int) (i : Nat) (h : i < l.length) : rd l (i : Int) = l[i] := by simp [rd, h]
theorem take_succ' {α : Type} (l : List α) (i : Nat) (h : i < l.length) : l.take (i + 1) = l.take i ++ [l[i]] := by
  rw [List.take_succ_eq_append_getElem h]
theorem drop_cons' {α : Type} (l : List α) (i : Nat) (h : i < l.length) : l.drop i = l[i] :: l.drop (i + 1) := List.drop_eq_getElem_cons h
end Go.Proofs.Ythhjhbndnipdgaa.Pure

/- The laws' own helpers on lists of duties: a copy, an equality, marks and their check. -/
namespace Go.Proofs.Ythhjhbndnipdgaa.Pure
open Go.RowKit Go.Proofs.Ythhjhbndnipdgaa.P Go.Proofs.YthhjhbndnipdgaaW.PrintWords Go.Proofs.YthhjhbndnipdgaaW.PrintLast
set_option linter.unusedVariables false

def convD (z : S41) : S44 := ⟨z.f0, z.f1, z.f2⟩
theorem rdD_lt (l : List S44) (i : Nat) (h : i < l.length) : rd_T44 l (i : Int) = l[i] := by simp [rd_T44, h]
theorem rdD0_lt (l : List S41) (i : Nat) (h : i < l.length) : rd_T41 l (i : Int) = l[i] := by simp [rd_T41, h]
theorem toDutyS_l0 (l : List S41) (hl : l.length ≤ 1048576) : ∀ (d i : Nat) (o : List S44), l.length - i = d → i ≤ l.length → o.length = l.length → o.take i = (l.map convD).take i →
    Ev (fun k => laws_toDutyS.l0 k l o (i : Int)) (l.map convD) := by
  intro d
  induction d with
  | zero =>
    intro i o hd hi ho ht
    refine Ev.step (fun k => by rw [laws_toDutyS.l0]) ?_
    refine Ev.neg (by omega) (Ev.const ?_)
    have hi' : i = l.length := by omega
    subst hi'
    rw [List.take_of_length_le (by omega), List.take_of_length_le (by simp)] at ht
    rw [ht]
  | succ d ih =>
    intro i o hd hi ho ht
    refine Ev.step (fun k => by rw [laws_toDutyS.l0]) ?_
    refine Ev.pos (by omega) (Ev.pos (by omega) ?_)
    refine Ev.bindc (b := (l[i].f0, l[i].f1, l[i].f2)) (by rw [rdD0_lt l i (by omega)]; rfl) (Ev.pos (by omega) ?_)
    rw [w64 (by omega) (by omega), show (i : Int) + 1 = ((i + 1 : Nat) : Int) from by omega]
    refine ih (i + 1) _ (by omega) (by omega) (by simpa using ho) ?_
    rw [Int.toNat_natCast, take_succ' _ _ (by simp; omega), take_succ' (l.map convD) _ (by simp; omega)]
    rw [List.take_set_of_le (Nat.le_refl i), ht]; simp [convD]
theorem toDutyS (l : List S41) (hl : l.length ≤ 1048576) : Ev (fun k => laws_toDutyS.f k l) (l.map convD) := by
  unfold laws_toDutyS.f
  refine Ev.pos (by omega) (Ev.pos (by omega) ?_)
  exact toDutyS_l0 l hl _ 0 _ rfl (by omega) (by simp) (by simp)
theorem szDuty_f (l : List S41) (hm : l.length ≤ 9223372036854775807) : ∃ t, laws_szDutyS.f l 1048576 = some t ∧ (¬ t < 0 → l.length ≤ 1048576) := by
  unfold laws_szDutyS.f
  have hw : wrap64 (1048576 - (l.length : Int)) = 1048576 - (l.length : Int) := by unfold wrap64; omega
  rw [hw]
  by_cases h : 1048576 - (l.length : Int) < 0
  · rw [if_pos h]; exact ⟨_, rfl, by omega⟩
  · rw [if_neg h]; exact ⟨_, rfl, by omega⟩
theorem eqDuty_l0 (a : List S44) (hl : a.length ≤ 4611686018427387904) : ∀ (d i : Nat), a.length - i = d → i ≤ a.length → Ev (fun k => laws_eqDutyS.l0 k a a (i : Int)) true := by
  intro d
  induction d with
  | zero =>
    intro i hd hi
    refine Ev.step (fun k => by rw [laws_eqDutyS.l0]) ?_
    exact Ev.neg (by omega) (Ev.now _)
  | succ d ih =>
    intro i hd hi
    refine Ev.step (fun k => by rw [laws_eqDutyS.l0]) ?_
    refine Ev.pos (by omega) (Ev.pos (by omega) (Ev.pos (by omega) ?_))
    refine Ev.bindc (b := true) (by unfold laws_eqDuty.f; simp) (Ev.pos rfl ?_)
    rw [w64 (by omega) (by omega), show (i : Int) + 1 = ((i + 1 : Nat) : Int) from by omega]
    exact ih (i + 1) (by omega) (by omega)
theorem eqDuty_refl (a : List S44) (hl : a.length ≤ 4611686018427387904) : Ev (fun k => laws_eqDutyS.f k a a) true := by
  unfold laws_eqDutyS.f
  exact Ev.pos rfl (eqDuty_l0 a hl _ 0 rfl (by omega))
def marked : List S44 → Int → List S44
  | [], _ => []
  | _ :: xs, k => ⟨k, k + 1, k + 2⟩ :: marked xs (k + 3)
theorem marked_len : ∀ (l : List S44) (k : Int), (marked l k).length = l.length
  | [], _ => rfl
  | _ :: xs, k => by simp [marked, marked_len xs]
theorem marked_snoc : ∀ (l : List S44) (x : S44) (k : Int), marked (l ++ [x]) k = marked l k ++ [⟨k + 3 * l.length, k + 3 * l.length + 1, k + 3 * l.length + 2⟩]
  | [], x, k => by simp [marked]
  | y :: ys, x, k => by
    simp only [List.cons_append, marked, marked_snoc ys x (k + 3)]
    congr 2
    simp; omega
theorem markD_l0 (l : List S44) (a : Int) (ha : 0 ≤ a) (hb : a ≤ 1048576) (hl : l.length ≤ 4611686018427) : ∀ (d i : Nat), l.length - i = d → i ≤ l.length →
    Ev (fun k => laws_markDutyS.l0 k (marked (l.take i) a ++ l.drop i) (a + 3 * i) (i : Int)) (a + 3 * l.length, marked l a) := by
  intro d
  induction d with
  | zero =>
    intro i hd hi
    obtain rfl : i = l.length := by omega
    refine Ev.step (fun k => by rw [laws_markDutyS.l0]) ?_
    refine Ev.neg (by simp [marked_len]) (Ev.const ?_)
    simp
  | succ d ih =>
    intro i hd hi
    have hlt : i < l.length := by omega
    have hml : (marked (l.take i) a).length = i := by rw [marked_len]; simp; omega
    refine Ev.step (fun k => by rw [laws_markDutyS.l0]) ?_
    rw [List.drop_eq_getElem_cons hlt]
    refine Ev.pos (by simp [hml]; omega) (Ev.pos (by omega) ?_)
    simp only [Option.bind_some, Int.toNat_natCast]
    have hset : ∀ x y : S44, (marked (l.take i) a ++ x :: l.drop (i + 1)).set i y = marked (l.take i) a ++ y :: l.drop (i + 1) := fun x y => by
      rw [List.set_append_right _ _ (by omega), hml, Nat.sub_self]; rfl
    have hrd : ∀ x : S44, rd_T44 (marked (l.take i) a ++ x :: l.drop (i + 1)) (i : Int) = x := fun x => by
      rw [rdD_lt _ _ (by simp [hml]), List.getElem_append_right (by omega)]; simp [hml]
    simp only [hset, hrd]
    have e1 : wrap64 (a + 3 * (i : Int) + 1) = a + 3 * i + 1 := w64 (by omega) (by omega)
    have e2 : wrap64 (a + 3 * (i : Int) + 1 + 1) = a + 3 * i + 2 := by rw [w64 (by omega) (by omega)]; omega
    have e3 : wrap64 (a + 3 * (i : Int) + 2 + 1) = a + 3 * ((i + 1 : Nat) : Int) := by rw [w64 (by omega) (by omega)]; omega
    rw [e1, e2, e3, w64 (x := (i : Int) + 1) (by omega) (by omega), show (i : Int) + 1 = ((i + 1 : Nat) : Int) from by omega]
    have h1 := ih (i + 1) (by omega) (by omega)
    rw [take_succ' _ _ hlt, marked_snoc, List.append_assoc, List.length_take, Nat.min_eq_left (by omega)] at h1
    exact h1
theorem markDuty (l : List S44) (a : Int) (ha : 0 ≤ a) (hb : a ≤ 1048576) (hl : l.length ≤ 4611686018427) : Ev (fun k => laws_markDutyS.f k l a) (a + 3 * l.length, marked l a) := by
  unfold laws_markDutyS.f
  have h := markD_l0 l a ha hb hl _ 0 rfl (by omega)
  simpa [marked] using h
theorem heldD_l0 (a : Int) (ha : 0 ≤ a) (hb : a ≤ 1048576) (l : List S44) (hl : l.length ≤ 4611686018427) : ∀ (d i : Nat), l.length - i = d → i ≤ l.length →
    Ev (fun k => laws_heldDutyS.l0 k (marked l a) (a + 3 * i) (i : Int)) (a + 3 * l.length) := by
  intro d
  induction d with
  | zero =>
    intro i hd hi
    obtain rfl : i = l.length := by omega
    refine Ev.step (fun k => by rw [laws_heldDutyS.l0]) ?_
    exact Ev.neg (by simp [marked_len]) (Ev.now _)
  | succ d ih =>
    intro i hd hi
    have hlt : i < l.length := by omega
    refine Ev.step (fun k => by rw [laws_heldDutyS.l0]) ?_
    have hml := marked_len l a
    have hel : rd_T44 (marked l a) (i : Int) = ⟨a + 3 * i, a + 3 * i + 1, a + 3 * i + 2⟩ := by
      rw [rdD_lt _ _ (by omega)]
      have h1 : marked l a = marked (l.take i ++ [l[i]]) a ++ marked (l.drop (i + 1)) (a + 3 * (i + 1 : Nat)) := by
        have : ∀ (xs ys : List S44) (k : Int), marked (xs ++ ys) k = marked xs k ++ marked ys (k + 3 * xs.length) := by
          intro xs
          induction xs with
          | nil => intro ys k; simp [marked]
          | cons x xs ihx =>
            intro ys k
            simp only [List.cons_append, marked, ihx]
            congr 3
            simp; omega
        conv => lhs; rw [← List.take_append_drop (i + 1) l]
        rw [this, take_succ' _ _ hlt]
        congr 3
        simp; omega
      have h2 : (marked l a)[i]? = some ⟨a + 3 * i, a + 3 * i + 1, a + 3 * i + 2⟩ := by
        rw [h1, marked_snoc, List.append_assoc, List.getElem?_append_right (by rw [marked_len]; simp; omega)]
        rw [marked_len, List.length_take, Nat.min_eq_left (by omega), Nat.sub_self]
        rfl
      rw [List.getElem?_eq_getElem (by omega)] at h2
      exact Option.some.inj h2
    rw [hel]
    have e1 : wrap64 (a + 3 * (i : Int) + 1) = a + 3 * i + 1 := w64 (by omega) (by omega)
    have e2 : wrap64 (a + 3 * (i : Int) + 1 + 1) = a + 3 * i + 2 := by rw [w64 (by omega) (by omega)]; omega
    have e3 : wrap64 (a + 3 * (i : Int) + 2 + 1) = a + 3 * ((i + 1 : Nat) : Int) := by rw [w64 (by omega) (by omega)]; omega
    rw [e1, e2, e3, w64 (x := (i : Int) + 1) (by omega) (by omega), show (i : Int) + 1 = ((i + 1 : Nat) : Int) from by omega]
    exact Ev.pos (by omega) (Ev.pos (by omega) (Ev.pos rfl (Ev.pos rfl (Ev.pos rfl (ih (i + 1) (by omega) (by omega))))))
theorem heldDuty (l : List S44) (a : Int) (ha : 0 ≤ a) (hb : a ≤ 1048576) (hl : l.length ≤ 4611686018427) : Ev (fun k => laws_heldDutyS.f k (marked l a) a) (a + 3 * l.length) := by
  unfold laws_heldDutyS.f
  have h := heldD_l0 a ha hb l hl _ 0 rfl (by omega)
  simpa using h
end Go.Proofs.Ythhjhbndnipdgaa.Pure

/- The laws' own helpers on lists of integers where none is copied: an equality, marks and their check. -/
namespace Go.Proofs.Ythhjhbndnipdgaa.Pure
open Go.RowKit Go.Proofs.Ythhjhbndnipdgaa.P Go.Proofs.YthhjhbndnipdgaaW.PrintWords Go.Proofs.YthhjhbndnipdgaaW.PrintLast

theorem eqIntS_l0 (a b : List Int) (hl : a.length ≤ 4611686018427387904) (hab : a.length = b.length) : ∀ (d i : Nat), a.length - i = d → i ≤ a.length →
    Ev (fun k => laws_eqIntS.l0 k a b (i : Int)) (decide (a.drop i = b.drop i)) := by
  intro d
  induction d with
  | zero =>
    intro i hd hi
    refine Ev.step (fun k => by rw [laws_eqIntS.l0]) ?_
    refine Ev.neg (by omega) (Ev.const ?_)
    rw [List.drop_of_length_le (by omega), List.drop_of_length_le (by omega)]; simp
  | succ d ih =>
    intro i hd hi
    refine Ev.step (fun k => by rw [laws_eqIntS.l0]) ?_
    refine Ev.pos (by omega) (Ev.pos (by omega) (Ev.pos (by omega) ?_))
    rw [w64 (by omega) (by omega), show (i : Int) + 1 = ((i + 1 : Nat) : Int) from by omega, rd_lt a i (by omega), rd_lt b i (by omega), drop_cons' a i (by omega), drop_cons' b i (by omega)]
    refine Ev.cases (fun h => ?_) (fun h => ?_)
    · exact Ev.eq (ih (i + 1) (by omega) (by omega)) (by rw [h]; simp only [List.cons.injEq, true_and])
    · exact Ev.const (by rw [decide_eq_false (fun e => h (List.cons.inj e).1)])
theorem eqIntS (a b : List Int) (hl : a.length ≤ 4611686018427387904) : Ev (fun k => laws_eqIntS.f k a b) (decide (a = b)) := by
  unfold laws_eqIntS.f
  refine Ev.cases (fun h => ?_) (fun h => ?_)
  · exact Ev.eq (eqIntS_l0 a b hl (by omega) _ 0 rfl (by omega)) (by simp)
  · refine Ev.const ?_
    congr 1
    refine (decide_eq_false fun e => h ?_).symm
    rw [e]
/-- The marks a, a + 1, .. -/
def iota (a : Int) : Nat → List Int
  | 0 => []
  | n + 1 => a :: iota (a + 1) n
theorem iota_length : ∀ (n : Nat) (a : Int), (iota a n).length = n
  | 0, _ => rfl
  | n + 1, a => by simp [iota, iota_length n]
theorem iota_get : ∀ (n : Nat) (a : Int) (i : Nat) (h : i < (iota a n).length), (iota a n)[i] = a + i
  | 0, _, i, h => by simp [iota] at h
  | n + 1, a, 0, _ => by simp [iota]
  | n + 1, a, i + 1, h => by
    simp only [iota, List.getElem_cons_succ]
    rw [iota_get n (a + 1) i (by simpa [iota] using h)]; omega
theorem mark_l0 (n : Nat) (a : Int) (ha : 0 ≤ a) (hb : a + n ≤ 4611686018427387904) : ∀ (d i : Nat) (o : List Int), n - i = d → i ≤ n → o.length = n →
    Ev (fun k => laws_markIntS.l0 k o (a + i) (i : Int)) (a + n, o.take i ++ iota (a + i) (n - i)) := by
  intro d
  induction d with
  | zero =>
    intro i o hd hi ho
    refine Ev.step (fun k => by rw [laws_markIntS.l0]) (Ev.neg (by omega) (Ev.const ?_))
    have : i = n := by omega
    subst this
    rw [Nat.sub_self, List.take_of_length_le (by omega)]; simp [iota]
  | succ d ih =>
    intro i o hd hi ho
    refine Ev.step (fun k => by rw [laws_markIntS.l0]) (Ev.pos (by omega) (Ev.pos (by omega) ?_))
    rw [w64 (x := a + i + 1) (by omega) (by omega), w64 (by omega) (by omega), show (i : Int) + 1 = ((i + 1 : Nat) : Int) from by omega, show a + (i : Int) + 1 = a + ((i + 1 : Nat) : Int) from by omega, Int.toNat_natCast]
    refine Ev.eq (ih (i + 1) (o.set i (a + i)) (by omega) (by omega) (by simpa using ho)) ?_
    rw [take_succ' _ _ (by simp; omega), List.take_set_of_le (Nat.le_refl i), show n - i = (n - (i + 1)) + 1 from by omega]
    simp only [iota, List.getElem_set_self, List.append_assoc, List.singleton_append]
    rw [show a + ((i + 1 : Nat) : Int) = a + (i : Int) + 1 from by omega]
theorem mark (l : List Int) (hb : l.length ≤ 2305843009213693952) : Ev (fun k => laws_markIntS.f k l 1) (1 + (l.length : Int), iota 1 l.length) := by
  unfold laws_markIntS.f
  exact Ev.eq (mark_l0 l.length 1 (by omega) (by omega) _ 0 l rfl (by omega) rfl) (by simp)
theorem held_l0 (n : Nat) (a : Int) (ha : 0 ≤ a) (hb : a + n ≤ 4611686018427387904) : ∀ (d i : Nat), n - i = d → i ≤ n →
    Ev (fun k => laws_heldIntS.l0 k (iota a n) (a + i) (i : Int)) (a + n) := by
  intro d
  induction d with
  | zero =>
    intro i hd hi
    refine Ev.step (fun k => by rw [laws_heldIntS.l0]) (Ev.neg (by rw [iota_length]; omega) (Ev.const ?_))
    rw [show i = n from by omega]
  | succ d ih =>
    intro i hd hi
    refine Ev.step (fun k => by rw [laws_heldIntS.l0]) (Ev.pos (by rw [iota_length]; omega) (Ev.pos (by omega) ?_))
    rw [rd_lt _ i (by rw [iota_length]; omega), iota_get]
    refine Ev.pos rfl ?_
    rw [w64 (x := a + i + 1) (by omega) (by omega), w64 (by omega) (by omega), show (i : Int) + 1 = ((i + 1 : Nat) : Int) from by omega, show a + (i : Int) + 1 = a + ((i + 1 : Nat) : Int) from by omega]
    exact ih (i + 1) (by omega) (by omega)
theorem held (n : Nat) (hb : n ≤ 2305843009213693952) : Ev (fun k => laws_heldIntS.f k (iota 1 n) 1) (1 + (n : Int)) := by
  unfold laws_heldIntS.f
  exact Ev.eq (held_l0 n 1 (by omega) (by omega) _ 0 rfl (by omega)) (by simp)
end Go.Proofs.Ythhjhbndnipdgaa.Pure

/- What a plan is, and that the program and the reference both say so. -/
namespace Go.Proofs.Ythhjhbndnipdgaa.Pure
open Go.RowKit Go.Proofs.Ythhjhbndnipdgaa.P Go.Proofs.YthhjhbndnipdgaaW.PrintWords Go.Proofs.YthhjhbndnipdgaaW.PrintLast
set_option linter.unusedVariables false

theorem rdP_lt (l : List S44) (i : Nat) (h : i < l.length) : rd_T44 l (i : Int) = l[i] := by simp [rd_T44, h]
/-- One duty for itself. -/
def dOk (d : S44) : Prop := 1 ≤ d.f0 ∧ d.f0 ≤ 8 ∧ 0 ≤ d.f1 ∧ d.f1 < d.f2 ∧ d.f2 ≤ 240 ∧ d.f2 - d.f1 ≤ 12
/-- a comes before b. -/
def dLt (a b : S44) : Prop := a.f1 < b.f1 ∨ (a.f1 = b.f1 ∧ a.f0 < b.f0)
def dRest (a b : S44) : Prop := a.f0 = b.f0 → a.f2 + 11 ≤ b.f1
theorem dLt_trans {a b c : S44} (h1 : dLt a b) (h2 : dLt b c) : dLt a c := by unfold dLt at *; omega
theorem dLt_irrefl (a : S44) : ¬ dLt a a := by unfold dLt; omega
/-- Duties in order, each for itself valid. -/
def Row1 (l : List S44) : Prop := (∀ d ∈ l, dOk d) ∧ l.Pairwise dLt
/-- Duties in order, with rests. -/
def Row2 (l : List S44) : Prop := (∀ d ∈ l, dOk d) ∧ l.Pairwise dLt ∧ l.Pairwise dRest
/-- A plan. -/
def Plan (l : List S44) : Prop := Row2 l ∧ l.length ≤ 20
open Classical in
noncomputable def planB (l : List S44) : Bool := decide (Plan l)
theorem planB_true {l : List S44} : planB l = true ↔ Plan l := by unfold planB; simp
theorem planB_eq {l l' : List S44} (h : Plan l ↔ Plan l') : planB l = planB l' := by
  rw [Bool.eq_iff_iff, planB_true, planB_true]; exact h
theorem planB_of {l : List S44} (h : Plan l) : planB l = true := planB_true.2 h
theorem planB_not {l : List S44} (h : ¬ Plan l) : planB l = false := by
  cases e : planB l with
  | false => rfl
  | true => exact absurd (planB_true.1 e) h

theorem within_f (x a b : Int) : impl_within.f x a b = some (decide (a ≤ x ∧ x ≤ b)) := by
  unfold impl_within.f
  by_cases h : x ≥ a
  · rw [if_pos h]; congr 1; simp; omega
  · rw [if_neg h]; congr 1; simp; omega
theorem l1In_f (x a b : Int) : spec_l1In.f x a b = some (decide (a ≤ x ∧ x ≤ b)) := by
  unfold spec_l1In.f
  by_cases h : x ≥ a
  · rw [if_pos h]; congr 1; simp; omega
  · rw [if_neg h]; congr 1; simp; omega

/-- The last of the duties so far comes before d: so do all. -/
theorem before_all {l : List S44} {i : Nat} (hi : i < l.length) (h : (l.take i).Pairwise dLt) (d : S44) (h0 : ∀ (hp : 0 < i), dLt (l[i - 1]'(by omega)) d) : ∀ a ∈ l.take i, dLt a d := by
  intro a ha
  obtain ⟨j, hj, rfl⟩ := List.getElem_of_mem ha
  have hj' : j < i := by simp at hj; omega
  have hp : 0 < i := by omega
  have hlast := h0 hp
  by_cases e : j = i - 1
  · subst e; simpa using hlast
  · have h1 := List.pairwise_iff_getElem.1 h j (i - 1) hj (by simp; omega) (by omega)
    exact dLt_trans h1 (by simpa using hlast)
theorem row1_step {l : List S44} {i : Nat} (hi : i < l.length) (h : Row1 (l.take i)) (ho : dOk l[i]) (h0 : ∀ (hp : 0 < i), dLt (l[i - 1]'(by omega)) l[i]) : Row1 (l.take (i + 1)) := by
  rw [take_succ' _ _ hi]
  refine ⟨fun d hd => ?_, List.pairwise_append.2 ⟨h.2, List.pairwise_singleton _ _, fun a ha b hb => ?_⟩⟩
  · rcases List.mem_append.1 hd with hd | hd
    · exact h.1 d hd
    · rw [List.mem_singleton.1 hd]; exact ho
  · rw [List.mem_singleton.1 hb]; exact before_all hi h.2 _ h0 a ha
theorem row2_step {l : List S44} {i : Nat} (hi : i < l.length) (h : Row2 (l.take i)) (ho : dOk l[i]) (h0 : ∀ (hp : 0 < i), dLt (l[i - 1]'(by omega)) l[i]) (hr : ∀ a ∈ l.take i, dRest a l[i]) : Row2 (l.take (i + 1)) := by
  have h1 := row1_step hi ⟨h.1, h.2.1⟩ ho h0
  refine ⟨h1.1, h1.2, ?_⟩
  rw [take_succ' _ _ hi]
  refine List.pairwise_append.2 ⟨h.2.2, List.pairwise_singleton _ _, fun a ha b hb => ?_⟩
  rw [List.mem_singleton.1 hb]; exact hr a ha
theorem plan_dOk {l : List S44} (h : Plan l) {i : Nat} (hi : i < l.length) : dOk l[i] := h.1.1 _ (List.getElem_mem _)
theorem plan_order {l : List S44} (h : l.Pairwise dLt) {i : Nat} (hi : i < l.length) (hp : 0 < i) : dLt (l[i - 1]'(by omega)) l[i] := List.pairwise_iff_getElem.1 h (i - 1) i (by omega) hi (by omega)

/-! ### the program -/
theorem compare_ge (k : Nat) (x y : S44) (hk : 3 ≤ k) : impl_compareDuties.f k x.f0 x.f1 x.f2 y.f0 y.f1 y.f2 = some (cmpD x y) := by
  obtain ⟨d, rfl⟩ : ∃ d, k = 3 + d := ⟨k - 3, by omega⟩
  induction d with
  | zero => exact compareD_f x y
  | succ d ih => exact impl_compareDuties.mono _ _ _ _ _ _ _ _ (ih (by omega))
theorem cmpD_lt (x y : S44) : cmpD x y < 0 ↔ dLt x y := by
  have := ltD x y
  unfold ltOf at this
  rw [decide_eq_decide] at this
  exact this
theorem compareEv (x y : S44) : Ev (fun k => impl_compareDuties.f k x.f0 x.f1 x.f2 y.f0 y.f1 y.f2) (cmpD x y) := ⟨3, fun k hk => compare_ge k x y hk⟩
theorem isValid_l0 (l : List S44) (hl : l.length ≤ 1099511627776) : ∀ (d i : Nat), l.length - i = d → i ≤ l.length → Row2 (l.take i) →
    Ev (fun k => impl_IsValidPlan.l0 k l l (l.length : Int) (i : Int)) (planB l) := by
  intro d
  induction d with
  | zero =>
    intro i hd hi hR
    obtain rfl : i = l.length := by omega
    rw [List.take_length] at hR
    refine Ev.step (fun k => by rw [impl_IsValidPlan.l0]) ?_
    refine Ev.neg (by omega) (Ev.const ?_)
    congr 1
    rw [Bool.eq_iff_iff, planB_true]
    simp [Plan, hR]
    omega
  | succ d ih =>
    intro i hd hi hR
    have hlt : i < l.length := by omega
    refine Ev.step (fun k => by rw [impl_IsValidPlan.l0]) ?_
    refine Ev.pos (by omega) (Ev.pos (by omega) (Ev.pos (by omega) ?_))
    rw [rdP_lt l i hlt]
    have hno : ∀ x : Bool, (¬ Plan l) → x = true → Ev (fun k => impl_IsValidPlan.j1 k l (i : Int) l (l.length : Int) (i : Int) x l[i].f0 l[i].f1 l[i].f2) (planB l) := fun x hn hx => by
      subst hx
      refine Ev.step (fun k => by rw [impl_IsValidPlan.j1]) ?_
      rw [planB_not hn]
      exact Ev.pos rfl (Ev.now _)
    refine Ev.bindc (within_f _ _ _) ?_
    refine Ev.cases (fun h1 => ?_) (fun h1 => hno _ (fun hP => ?_) rfl)
    rotate_left
    · have := plan_dOk hP hlt; unfold dOk at this; simp at h1; omega
    have h1' : 1 ≤ l[i].f0 ∧ l[i].f0 ≤ 8 := of_decide_eq_true h1
    refine Ev.cases (fun h2 => hno _ (fun hP => ?_) rfl) (fun h2 => ?_)
    · have := plan_dOk hP hlt; unfold dOk at this; omega
    refine Ev.cases (fun h3 => hno _ (fun hP => ?_) rfl) (fun h3 => ?_)
    · have := plan_dOk hP hlt; unfold dOk at this; omega
    refine Ev.cases (fun h4 => hno _ (fun hP => ?_) rfl) (fun h4 => ?_)
    · have := plan_dOk hP hlt; unfold dOk at this; omega
    rw [w64 (x := l[i].f2 - l[i].f1) (by omega) (by omega)]
    by_cases h5 : l[i].f2 - l[i].f1 > 12
    · exact hno _ (fun hP => by have := plan_dOk hP hlt; unfold dOk at this; omega) (decide_eq_true h5)
    rw [decide_eq_false h5]
    have ho : dOk l[i] := by unfold dOk; omega
    have hno2 : ∀ x : Bool, (¬ Plan l) → x = true → Ev (fun k => impl_IsValidPlan.j2 k l (i : Int) l (l.length : Int) (i : Int) x l[i].f0 l[i].f1 l[i].f2) (planB l) := fun x hn hx => by
      subst hx
      refine Ev.step (fun k => by rw [impl_IsValidPlan.j2]) ?_
      rw [planB_not hn]
      exact Ev.pos rfl (Ev.now _)
    have hyes : (∀ (hp : 0 < i), dLt (l[i - 1]'(by omega)) l[i]) → Ev (fun k => impl_IsValidPlan.j2 k l (i : Int) l (l.length : Int) (i : Int) false l[i].f0 l[i].f1 l[i].f2) (planB l) := fun h0 => by
      refine Ev.step (fun k => by rw [impl_IsValidPlan.j2]) ?_
      refine Ev.neg (by decide) (Ev.pos (by omega) (Ev.pos (by omega) ?_))
      rw [Int.toNat_natCast]
      refine Ev.bindc (b := ((l.take i).any fun o => o.f0 == l[i].f0 && decide (l[i].f1 < wrap64 (o.f2 + 11)))) rfl ?_
      have hany : ((l.take i).any fun o => o.f0 == l[i].f0 && decide (l[i].f1 < wrap64 (o.f2 + 11))) = true ↔ ¬ ∀ a ∈ l.take i, dRest a l[i] := by
        rw [List.any_eq_true]
        constructor
        · rintro ⟨o, hm, hb⟩ hall
          have h6 := hall o hm
          have h7 := hR.1 o hm
          unfold dOk at h7
          simp only [Bool.and_eq_true, beq_iff_eq, decide_eq_true_eq] at hb
          rw [w64 (by omega) (by omega)] at hb
          have := h6 hb.1
          omega
        · intro hn
          have : ∃ a ∈ l.take i, ¬ dRest a l[i] := by
            refine Classical.byContradiction fun hc => hn fun a ha => ?_
            exact Classical.byContradiction fun hd => hc ⟨a, ha, hd⟩
          obtain ⟨o, hm, hb⟩ := this
          have h7 := hR.1 o hm
          unfold dOk at h7
          unfold dRest at hb
          refine ⟨o, hm, ?_⟩
          simp only [Bool.and_eq_true, beq_iff_eq, decide_eq_true_eq]
          rw [w64 (by omega) (by omega)]
          omega
      refine Ev.cases (fun h6 => ?_) (fun h6 => ?_)
      · refine Ev.const ?_
        rw [planB_not (fun hP => hany.1 h6 (fun a ha => ?_))]
        have h8 := hP.1.2.2
        obtain ⟨j, hj, rfl⟩ := List.getElem_of_mem ha
        have hj' : j < i := by simp at hj; omega
        simpa using List.pairwise_iff_getElem.1 h8 j i (by omega) hlt hj'
      · rw [w64 (by omega) (by omega), show (i : Int) + 1 = ((i + 1 : Nat) : Int) from by omega]
        refine ih (i + 1) (by omega) (by omega) (row2_step hlt hR ho h0 ?_)
        exact Classical.byContradiction fun hn => h6 (hany.2 hn)
    refine Ev.step (fun k => by rw [impl_IsValidPlan.j1]) ?_
    refine Ev.neg (by decide) (Ev.cases (fun hp => ?_) (fun hp => hyes (fun h => by omega)))
    have hpi : 0 < i := by omega
    have ew : wrap64 ((i : Int) - 1) = ((i - 1 : Nat) : Int) := by rw [w64 (by omega) (by omega)]; omega
    rw [ew, rdP_lt l (i - 1) (by omega)]
    refine Ev.pos (by omega) (Ev.pos (by omega) (Ev.bind (compareEv _ _) ?_))
    by_cases hc : cmpD (l[i - 1]'(by omega)) l[i] ≥ 0
    · refine hno2 _ (fun hP => ?_) (decide_eq_true hc)
      have := (cmpD_lt _ _).2 (plan_order hP.1.2.1 hlt hpi)
      omega
    · rw [decide_eq_false hc]
      exact hyes (fun _ => (cmpD_lt _ _).1 (by omega))
theorem isValidPlan (l : List S44) (hl : l.length ≤ 1099511627776) : Ev (fun k => impl_IsValidPlan.f k l) (planB l) := by
  unfold impl_IsValidPlan.f
  exact isValid_l0 l hl _ 0 rfl (by omega) ⟨by simp, by simp, by simp⟩

/-! ### the reference -/
def restOk (p : Int) : Int → List S44 → Prop
  | _, [] => True
  | e, d :: ds => if d.f0 = p then ((0 ≤ e → e + 11 ≤ d.f1) ∧ restOk p d.f2 ds) else restOk p e ds
def restF (p : Int) : Int → Int → List S44 → Int
  | least, _, [] => least
  | least, e, d :: ds => if d.f0 = p then (if 0 ≤ e ∧ (least < 0 ∨ d.f1 - e < least) then restF p (if d.f1 - e > 0 then d.f1 - e else 0) d.f2 ds else restF p least d.f2 ds) else restF p least e ds
theorem most_f (a b : Int) : spec_l1Most.f a b = some (if a > b then a else b) := by
  unfold spec_l1Most.f; split <;> rfl
theorem rest_l0 (p : Int) (l : List S44) (hl : l.length ≤ 1099511627776) (hO : ∀ d ∈ l, dOk d) : ∀ (d i : Nat) (least e : Int), l.length - i = d → i ≤ l.length → -1 ≤ e → e ≤ 240 →
    Ev (fun k => spec_l25Rest.l0 k l p least e (i : Int)) (restF p least e (l.drop i)) := by
  intro d
  induction d with
  | zero =>
    intro i least e hd hi h1 h2
    refine Ev.step (fun k => by rw [spec_l25Rest.l0]) ?_
    refine Ev.neg (by omega) (Ev.const ?_)
    rw [List.drop_of_length_le (by omega)]
    rfl
  | succ d ih =>
    intro i least e hd hi h1 h2
    have hlt : i < l.length := by omega
    have ho := hO l[i] (List.getElem_mem _)
    unfold dOk at ho
    refine Ev.step (fun k => by rw [spec_l25Rest.l0]) ?_
    refine Ev.pos (by omega) (Ev.pos (by omega) ?_)
    rw [rdP_lt l i hlt, w64 (x := (i : Int) + 1) (by omega) (by omega), show (i : Int) + 1 = ((i + 1 : Nat) : Int) from by omega, drop_cons' l i hlt]
    simp only [restF]
    rw [w64 (x := l[i].f1 - e) (by omega) (by omega)]
    refine Ev.cases (fun hp => ?_) (fun hp => ?_)
    · rw [if_pos hp]
      refine Ev.cases (fun he => ?_) (fun he => ?_)
      · refine Ev.cases (fun hs => ?_) (fun hs => ?_)
        · rw [if_pos ⟨he, .inl hs⟩]
          refine Ev.bindc (most_f _ _) ?_
          exact ih (i + 1) _ _ (by omega) (by omega) (by omega) (by omega)
        · refine Ev.cases (fun hs2 => ?_) (fun hs2 => ?_)
          · rw [if_pos ⟨he, .inr hs2⟩]
            refine Ev.bindc (most_f _ _) ?_
            exact ih (i + 1) _ _ (by omega) (by omega) (by omega) (by omega)
          · rw [if_neg (by omega)]
            exact ih (i + 1) _ _ (by omega) (by omega) (by omega) (by omega)
      · rw [if_neg (by omega)]
        exact ih (i + 1) _ _ (by omega) (by omega) (by omega) (by omega)
    · rw [if_neg hp]
      exact ih (i + 1) _ _ (by omega) (by omega) (by omega) (by omega)
theorem restEv (p : Int) (l : List S44) (hl : l.length ≤ 1099511627776) (hO : ∀ d ∈ l, dOk d) : Ev (fun k => spec_l25Rest.f k l p) (restF p (-1) (-1) l) := by
  unfold spec_l25Rest.f
  exact rest_l0 p l hl hO _ 0 _ _ rfl (by omega) (by omega) (by omega)
theorem restF_low (p : Int) : ∀ (l : List S44) (least e : Int), 0 ≤ least → least < 11 → 0 ≤ restF p least e l ∧ restF p least e l < 11
  | [], least, e, h1, h2 => ⟨h1, h2⟩
  | d :: ds, least, e, h1, h2 => by
    simp only [restF]
    split
    · split
      · rename_i h
        exact restF_low p ds _ _ (by split <;> omega) (by split <;> omega)
      · exact restF_low p ds _ _ h1 h2
    · exact restF_low p ds _ _ h1 h2
theorem restF_iff (p : Int) : ∀ (l : List S44) (least e : Int), (least < 0 ∨ 11 ≤ least) → ((0 ≤ restF p least e l ∧ restF p least e l < 11) ↔ ¬ restOk p e l)
  | [], least, e, h => by simp [restF, restOk]; omega
  | d :: ds, least, e, h => by
    simp only [restF, restOk]
    by_cases hp : d.f0 = p
    · rw [if_pos hp, if_pos hp]
      by_cases he : 0 ≤ e
      · by_cases hr : d.f1 - e < 11
        · rw [if_pos ⟨he, by omega⟩]
          refine ⟨fun _ h2 => by have := h2.1 he; omega, fun _ => restF_low p ds _ _ (by split <;> omega) (by split <;> omega)⟩
        · have h2 : (0 ≤ e → e + 11 ≤ d.f1) := fun _ => by omega
          have ih := fun least' hl' => restF_iff p ds least' d.f2 hl'
          split
          · rw [ih _ (by split <;> omega)]
            exact ⟨fun h h3 => h h3.2, fun h h3 => h ⟨h2, h3⟩⟩
          · rw [ih _ h]
            exact ⟨fun h h3 => h h3.2, fun h h3 => h ⟨h2, h3⟩⟩
      · rw [if_neg (by omega), restF_iff p ds least d.f2 h]
        exact ⟨fun h h3 => h h3.2, fun h h3 => h ⟨fun h4 => absurd h4 he, h3⟩⟩
    · rw [if_neg hp, if_neg hp]
      exact restF_iff p ds least e h
theorem restOk_iff (p : Int) : ∀ (l : List S44) (e : Int), (∀ d ∈ l, dOk d) → (restOk p e l ↔ ((0 ≤ e → ∀ d ∈ l, d.f0 = p → e + 11 ≤ d.f1) ∧ l.Pairwise (fun a b => a.f0 = p → b.f0 = p → a.f2 + 11 ≤ b.f1)))
  | [], e, _ => by simp [restOk]
  | d :: ds, e, hO => by
    have hd := hO d (by simp)
    unfold dOk at hd
    have hO' : ∀ d ∈ ds, dOk d := fun x hx => hO x (by simp [hx])
    simp only [restOk, List.pairwise_cons]
    by_cases hp : d.f0 = p
    · rw [if_pos hp, restOk_iff p ds d.f2 hO']
      constructor
      · rintro ⟨h1, h2, h3⟩
        have h2' := h2 (by omega)
        refine ⟨fun he x hx hxp => ?_, fun x hx _ hxp => h2' x hx hxp, h3⟩
        rcases List.mem_cons.1 hx with rfl | hx
        · exact h1 he
        · have := h1 he; have := h2' x hx hxp; omega
      · rintro ⟨h1, h2, h3⟩
        exact ⟨fun he => h1 he d (by simp) hp, fun _ x hx hxp => h2 x hx hp hxp, h3⟩
    · rw [if_neg hp, restOk_iff p ds e hO']
      constructor
      · rintro ⟨h1, h2⟩
        refine ⟨fun he x hx hxp => ?_, fun x hx h => absurd h hp, h2⟩
        rcases List.mem_cons.1 hx with rfl | hx
        · exact absurd hxp hp
        · exact h1 he x hx hxp
      · rintro ⟨h1, _, h3⟩
        exact ⟨fun he x hx hxp => h1 he x (by simp [hx]) hxp, h3⟩
theorem rests_iff (l : List S44) (hO : ∀ d ∈ l, dOk d) : l.Pairwise dRest ↔ ∀ p : Int, 1 ≤ p → p ≤ 8 → restOk p (-1) l := by
  constructor
  · intro h p _ _
    rw [restOk_iff p l (-1) hO]
    exact ⟨fun h => by omega, h.imp fun h1 h2 h3 => h1 (h2.trans h3.symm)⟩
  · intro h
    rw [List.pairwise_iff_getElem]
    intro i j hi hj hij he
    have ho := hO l[i] (List.getElem_mem _)
    unfold dOk at ho
    have h1 := ((restOk_iff l[i].f0 l (-1) hO).1 (h _ (by omega) (by omega))).2
    exact List.pairwise_iff_getElem.1 h1 i j hi hj hij rfl he.symm
theorem good_l1 (l : List S44) (hl : l.length ≤ 1099511627776) (hR : Row1 l) : ∀ (d : Nat) (p : Int), (9 - p).toNat = d → 1 ≤ p → p ≤ 9 → (∀ q : Int, 1 ≤ q → q < p → restOk q (-1) l) →
    Ev (fun k => spec_l25Good.l1 k l p) (planB l) := by
  intro d
  induction d with
  | zero =>
    intro p hd h1 h2 hq
    refine Ev.step (fun k => by rw [spec_l25Good.l1]) ?_
    refine Ev.neg (by omega) (Ev.const ?_)
    congr 1
    rw [Bool.eq_iff_iff, planB_true]
    have := (rests_iff l hR.1).2 (fun q h3 h4 => hq q h3 (by omega))
    rw [decide_eq_true_eq]
    exact ⟨fun h => ⟨⟨hR.1, hR.2, this⟩, by omega⟩, fun h => by have := h.2; omega⟩
  | succ d ih =>
    intro p hd h1 h2 hq
    refine Ev.step (fun k => by rw [spec_l25Good.l1]) ?_
    refine Ev.pos (by omega) (Ev.bind (restEv p l hl hR.1) ?_)
    have hi := restF_iff p l (-1) (-1) (.inl (by omega))
    have hbad : (0 ≤ restF p (-1) (-1) l ∧ restF p (-1) (-1) l < 11) → planB l = false := fun h => planB_not fun hP => hi.1 h ((rests_iff l hR.1).1 hP.1.2.2 p h1 (by omega))
    have hgood : ¬ (0 ≤ restF p (-1) (-1) l ∧ restF p (-1) (-1) l < 11) → Ev (fun k => spec_l25Good.l1 k l (wrap64 (p + 1))) (planB l) := fun h => by
      rw [w64 (by omega) (by omega)]
      refine ih (p + 1) (by omega) (by omega) (by omega) (fun q h3 h4 => ?_)
      by_cases e : q = p
      · subst e; exact Classical.byContradiction fun hn => h (hi.2 hn)
      · exact hq q h3 (by omega)
    refine Ev.cases (fun h3 => ?_) (fun h3 => hgood (by omega))
    refine Ev.cases (fun h4 => Ev.const (by rw [hbad ⟨h3, h4⟩])) (fun h4 => hgood (by omega))
theorem good_l0 (l : List S44) (hl : l.length ≤ 1099511627776) : ∀ (d i : Nat), l.length - i = d → i ≤ l.length → Row1 (l.take i) →
    Ev (fun k => spec_l25Good.l0 k l (i : Int)) (planB l) := by
  intro d
  induction d with
  | zero =>
    intro i hd hi hR
    obtain rfl : i = l.length := by omega
    rw [List.take_length] at hR
    refine Ev.step (fun k => by rw [spec_l25Good.l0]) ?_
    exact Ev.neg (by omega) (good_l1 l hl hR _ 1 rfl (by omega) (by omega) (fun q h1 h2 => by omega))
  | succ d ih =>
    intro i hd hi hR
    have hlt : i < l.length := by omega
    refine Ev.step (fun k => by rw [spec_l25Good.l0]) ?_
    refine Ev.pos (by omega) (Ev.pos (by omega) ?_)
    rw [rdP_lt l i hlt]
    have hno : ∀ x : Bool, (¬ Plan l) → x = true → Ev (fun k => spec_l25Good.j1 k l (i : Int) x l[i].f0 l[i].f1 l[i].f2) (planB l) := fun x hn hx => by
      subst hx
      refine Ev.step (fun k => by rw [spec_l25Good.j1]) ?_
      rw [planB_not hn]
      exact Ev.pos rfl (Ev.now _)
    refine Ev.bindc (b := decide (1 ≤ l[i].f0 ∧ l[i].f0 ≤ 8)) (by unfold spec_l25Person.f; rw [l1In_f]; rfl) ?_
    refine Ev.cases (fun h1 => ?_) (fun h1 => hno _ (fun hP => ?_) rfl)
    rotate_left
    · have := plan_dOk hP hlt; unfold dOk at this; simp at h1; omega
    have h1' : 1 ≤ l[i].f0 ∧ l[i].f0 ≤ 8 := of_decide_eq_true h1
    refine Ev.cases (fun h2 => hno _ (fun hP => ?_) rfl) (fun h2 => ?_)
    · have := plan_dOk hP hlt; unfold dOk at this; omega
    refine Ev.cases (fun h3 => hno _ (fun hP => ?_) rfl) (fun h3 => ?_)
    · have := plan_dOk hP hlt; unfold dOk at this; omega
    refine Ev.cases (fun h4 => hno _ (fun hP => ?_) rfl) (fun h4 => ?_)
    · have := plan_dOk hP hlt; unfold dOk at this; omega
    rw [w64 (x := l[i].f2 - l[i].f1) (by omega) (by omega)]
    by_cases h5 : l[i].f2 - l[i].f1 > 12
    · exact hno _ (fun hP => by have := plan_dOk hP hlt; unfold dOk at this; omega) (decide_eq_true h5)
    rw [decide_eq_false h5]
    have ho : dOk l[i] := by unfold dOk; omega
    have hyes : (∀ (hp : 0 < i), dLt (l[i - 1]'(by omega)) l[i]) → Ev (fun k => spec_l25Good.l0 k l (wrap64 ((i : Int) + 1))) (planB l) := fun h0 => by
      rw [w64 (by omega) (by omega), show (i : Int) + 1 = ((i + 1 : Nat) : Int) from by omega]
      exact ih (i + 1) (by omega) (by omega) (row1_step hlt hR ho h0)
    refine Ev.step (fun k => by rw [spec_l25Good.j1]) ?_
    refine Ev.neg (by decide) (Ev.cases (fun hp => ?_) (fun hp => hyes (fun h => by omega)))
    have hpi : 0 < i := by omega
    have ew : wrap64 ((i : Int) - 1) = ((i - 1 : Nat) : Int) := by rw [w64 (by omega) (by omega)]; omega
    rw [ew, rdP_lt l (i - 1) (by omega)]
    have hbad : ¬ dLt (l[i - 1]'(by omega)) l[i] → planB l = false := fun h => planB_not fun hP => h (plan_order hP.1.2.1 hlt hpi)
    refine Ev.pos (by omega) (Ev.pos (by omega) ?_)
    refine Ev.cases (fun h6 => Ev.const (by rw [hbad (by unfold dLt; omega)])) (fun h6 => ?_)
    refine Ev.cases (fun h7 => ?_) (fun h7 => hyes (fun _ => by unfold dLt; omega))
    exact Ev.cases (fun h8 => Ev.const (by rw [hbad (by unfold dLt; omega)])) (fun h8 => hyes (fun _ => by unfold dLt; omega))
theorem specGood (l : List S44) (hl : l.length ≤ 1099511627776) : Ev (fun k => spec_l25Good.f k l) (planB l) := by
  unfold spec_l25Good.f
  exact good_l0 l hl _ 0 rfl (by omega) ⟨by simp, by simp⟩
end Go.Proofs.Ythhjhbndnipdgaa.Pure

/- Who is on duty at an hour; the hours at which too few are; the hours of a handover. -/
namespace Go.Proofs.Ythhjhbndnipdgaa.Pure
open Go.RowKit Go.Proofs.Ythhjhbndnipdgaa.P Go.Proofs.YthhjhbndnipdgaaW.PrintWords Go.Proofs.YthhjhbndnipdgaaW.PrintLast
set_option linter.unusedVariables false

/-- Two lists that rise strictly and have the same members are one. -/
theorem strict_ext {α : Type} (R : α → α → Prop) (asym : ∀ a b, R a b → ¬ R b a) : ∀ a b : List α, a.Pairwise R → b.Pairwise R → (∀ x, x ∈ a ↔ x ∈ b) → a = b
  | [], b, _, _, h => by
    cases b with
    | nil => rfl
    | cons y ys => exact absurd ((h y).2 (by simp)) (by simp)
  | x :: xs, b, ha, hb, h => by
    cases b with
    | nil => exact absurd ((h x).1 (by simp)) (by simp)
    | cons y ys =>
      have ha := List.pairwise_cons.1 ha
      have hb := List.pairwise_cons.1 hb
      have hxy : x = y := by
        rcases List.mem_cons.1 ((h x).1 (by simp)) with e | hx
        · exact e
        · rcases List.mem_cons.1 ((h y).2 (by simp)) with e | hy
          · exact e.symm
          · exact absurd (ha.1 y hy) (asym _ _ (hb.1 x hx))
      subst hxy
      have irr : ∀ a, ¬ R a a := fun a h => asym a a h h
      rw [strict_ext R asym xs ys ha.2 hb.2 (fun z => ⟨fun hz => ?_, fun hz => ?_⟩)]
      · rcases List.mem_cons.1 ((h z).1 (by simp [hz])) with e | hz'
        · subst e; exact absurd (ha.1 z hz) (irr z)
        · exact hz'
      · rcases List.mem_cons.1 ((h z).2 (by simp [hz])) with e | hz'
        · subst e; exact absurd (hb.1 z hz) (irr z)
        · exact hz'
theorem int_ext (a b : List Int) (ha : a.Pairwise (· < ·)) (hb : b.Pairwise (· < ·)) (h : ∀ x, x ∈ a ↔ x ∈ b) : a = b := strict_ext (· < ·) (fun a b h1 h2 => by omega) a b ha hb h

theorem putI_mem : ∀ (l : List Int) (n x : Int), x ∈ putI l n ↔ x = n ∨ x ∈ l
  | [], n, x => by simp [putI]
  | y :: ys, n, x => by
    simp only [putI]
    split
    · rw [List.mem_cons, putI_mem ys n x, List.mem_cons]
      exact ⟨fun h => by rcases h with h | h | h <;> simp [h], fun h => by rcases h with h | h | h <;> simp [h]⟩
    · split
      · rename_i h; subst h; simp
      · simp
theorem putI_sorted : ∀ (l : List Int) (n : Int), l.Pairwise (· < ·) → (putI l n).Pairwise (· < ·)
  | [], n, _ => by simp [putI]
  | y :: ys, n, h => by
    have h' := List.pairwise_cons.1 h
    simp only [putI]
    split
    · refine List.pairwise_cons.2 ⟨fun z hz => ?_, putI_sorted ys n h'.2⟩
      rcases (putI_mem ys n z).1 hz with e | hz
      · rw [e]; assumption
      · exact h'.1 z hz
    · split
      · exact h
      · refine List.pairwise_cons.2 ⟨fun z hz => ?_, h⟩
        rcases List.mem_cons.1 hz with e | hz
        · omega
        · have := h'.1 z hz; omega
theorem foldI_mem : ∀ (xs out : List Int) (x : Int), x ∈ xs.foldl putI out ↔ x ∈ out ∨ x ∈ xs
  | [], out, x => by simp
  | y :: ys, out, x => by
    rw [List.foldl_cons, foldI_mem ys, putI_mem, List.mem_cons]
    exact ⟨fun h => by rcases h with (h | h) | h <;> simp [h], fun h => by rcases h with h | h | h <;> simp [h]⟩
theorem foldI_sorted : ∀ (xs out : List Int), out.Pairwise (· < ·) → (xs.foldl putI out).Pairwise (· < ·)
  | [], out, h => h
  | y :: ys, out, h => foldI_sorted ys _ (putI_sorted out y h)

/-! ### on duty -/
/-- The persons on duty at an hour, in the plan's order. -/
def onL (h : Int) : List S44 → List Int
  | [] => []
  | d :: ds => if d.f1 ≤ h ∧ h ≤ d.f2 - 1 then d.f0 :: onL h ds else onL h ds
theorem onL_mem (h : Int) : ∀ (l : List S44) (x : Int), x ∈ onL h l ↔ ∃ d ∈ l, (d.f1 ≤ h ∧ h ≤ d.f2 - 1) ∧ d.f0 = x
  | [], x => by simp [onL]
  | d :: ds, x => by
    simp only [onL]
    split
    · rw [List.mem_cons, onL_mem h ds x]
      constructor
      · rintro (rfl | ⟨d', h1, h2⟩)
        · exact ⟨d, by simp, by assumption, rfl⟩
        · exact ⟨d', by simp [h1], h2⟩
      · rintro ⟨d', h1, h2, h3⟩
        rcases List.mem_cons.1 h1 with rfl | h1
        · exact .inl h3.symm
        · exact .inr ⟨d', h1, h2, h3⟩
    · rw [onL_mem h ds x]
      constructor
      · rintro ⟨d', h1, h2⟩; exact ⟨d', by simp [h1], h2⟩
      · rintro ⟨d', h1, h2, h3⟩
        rcases List.mem_cons.1 h1 with rfl | h1
        · contradiction
        · exact ⟨d', h1, h2, h3⟩
theorem onL_len (h : Int) : ∀ (l : List S44), (onL h l).length ≤ l.length
  | [] => by simp [onL]
  | d :: ds => by
    have := onL_len h ds
    simp only [onL]
    split <;> simp <;> omega
theorem onL_ne (h : Int) : ∀ (l : List S44), (∀ d ∈ l, dOk d) → l.Pairwise dRest → (onL h l).Pairwise (· ≠ ·)
  | [], _, _ => by simp [onL]
  | d :: ds, hO, hR => by
    have hR' := List.pairwise_cons.1 hR
    have ih := onL_ne h ds (fun x hx => hO x (by simp [hx])) hR'.2
    simp only [onL]
    split
    · rename_i hh
      refine List.pairwise_cons.2 ⟨fun x hx he => ?_, ih⟩
      obtain ⟨d', h1, h2, h3⟩ := (onL_mem h ds x).1 hx
      have h4 := hR'.1 d' h1 (he.trans h3.symm)
      omega
    · exact ih
/-- The same in ascending order. -/
def onS (h : Int) (l : List S44) : List Int := (onL h l).mergeSort fun x y => decide (x ≤ y)
theorem mergeI_le (l : List Int) : (l.mergeSort fun x y => decide (x ≤ y)).Pairwise (· ≤ ·) :=
  (List.pairwise_mergeSort (le := fun x y : Int => decide (x ≤ y)) (fun a b c h1 h2 => by simp at *; omega) (fun a b => by simp; omega) l).imp (fun h => of_decide_eq_true h)
theorem onS_sorted (h : Int) (l : List S44) (hO : ∀ d ∈ l, dOk d) (hR : l.Pairwise dRest) : (onS h l).Pairwise (· < ·) := by
  have h1 := (List.Perm.pairwise_iff (R := fun a b : Int => a ≠ b) (fun h => Ne.symm h) (List.mergeSort_perm (onL h l) fun x y => decide (x ≤ y))).2 (onL_ne h l hO hR)
  have h2 := mergeI_le (onL h l)
  unfold onS
  rw [List.pairwise_iff_getElem] at h1 h2 ⊢
  intro i j hi hj hij
  have a := h1 i j hi hj hij
  have b := h2 i j hi hj hij
  omega
theorem onS_fold (h : Int) (l : List S44) (hO : ∀ d ∈ l, dOk d) (hR : l.Pairwise dRest) : (onL h l).foldl putI [] = onS h l :=
  int_ext _ _ (foldI_sorted _ _ (by simp)) (onS_sorted h l hO hR) (fun x => by
    rw [foldI_mem]; unfold onS; rw [(List.mergeSort_perm _ _).mem_iff]; simp)
theorem onS_len (h : Int) (l : List S44) : (onS h l).length = (onL h l).length := List.length_mergeSort _

theorem onDuty_l0 (h : Int) (l : List S44) (hl : l.length ≤ 20) (hO : ∀ d ∈ l, dOk d) : ∀ (d i : Nat) (acc : List Int), l.length - i = d → i ≤ l.length → acc.length ≤ i →
    Ev (fun k => impl_onDuty.l0 k h acc l (l.length : Int) (i : Int)) (acc ++ onL h (l.drop i)) := by
  intro d
  induction d with
  | zero =>
    intro i acc hd hi ha
    refine Ev.step (fun k => by rw [impl_onDuty.l0]) ?_
    refine Ev.neg (by omega) (Ev.const ?_)
    rw [List.drop_of_length_le (by omega)]; simp [onL]
  | succ d ih =>
    intro i acc hd hi ha
    have hlt : i < l.length := by omega
    have ho := hO l[i] (List.getElem_mem _)
    unfold dOk at ho
    refine Ev.step (fun k => by rw [impl_onDuty.l0]) ?_
    refine Ev.pos (by omega) (Ev.pos (by omega) (Ev.pos (by omega) ?_))
    rw [rdP_lt l i hlt, w64 (x := (i : Int) + 1) (by omega) (by omega), show (i : Int) + 1 = ((i + 1 : Nat) : Int) from by omega, drop_cons' l i hlt, w64 (x := l[i].f2 - 1) (by omega) (by omega)]
    simp only [onL]
    refine Ev.bindc (within_f _ _ _) (Ev.cases (fun h1 => ?_) (fun h1 => ?_))
    · rw [if_pos (of_decide_eq_true h1)]
      refine Ev.pos (by omega) (Ev.eq (ih (i + 1) _ (by omega) (by omega) (by simp; omega)) (by simp))
    · rw [if_neg (by simpa using h1)]
      exact ih (i + 1) _ (by omega) (by omega) (by omega)
theorem onDutyEv (h : Int) (l : List S44) (hP : Plan l) : Ev (fun k => impl_onDuty.f k l h) (onL h l) := by
  unfold impl_onDuty.f
  have := onDuty_l0 h l hP.2 hP.1.1 _ 0 [] rfl (by omega) (by simp)
  simpa using this
theorem foldI_len : ∀ (xs out : List Int), (xs.foldl putI out).length ≤ out.length + xs.length
  | [], out => by simp
  | y :: ys, out => by
    have := foldI_len ys (putI out y)
    have := putI_len out y
    simp; omega
theorem on_l0 (h : Int) (l : List S44) (hl : l.length ≤ 20) (hO : ∀ d ∈ l, dOk d) : ∀ (d i : Nat) (acc : List Int), l.length - i = d → i ≤ l.length → acc.length ≤ i →
    Ev (fun k => spec_l25On.l0 k l h acc (i : Int)) ((onL h (l.drop i)).foldl putI acc) := by
  intro d
  induction d with
  | zero =>
    intro i acc hd hi ha
    refine Ev.step (fun k => by rw [spec_l25On.l0]) ?_
    refine Ev.neg (by omega) (Ev.const ?_)
    rw [List.drop_of_length_le (by omega)]; simp [onL]
  | succ d ih =>
    intro i acc hd hi ha
    have hlt : i < l.length := by omega
    have ho := hO l[i] (List.getElem_mem _)
    unfold dOk at ho
    refine Ev.step (fun k => by rw [spec_l25On.l0]) ?_
    refine Ev.pos (by omega) (Ev.pos (by omega) ?_)
    rw [rdP_lt l i hlt, w64 (x := (i : Int) + 1) (by omega) (by omega), show (i : Int) + 1 = ((i + 1 : Nat) : Int) from by omega, drop_cons' l i hlt, w64 (x := l[i].f2 - 1) (by omega) (by omega)]
    simp only [onL]
    refine Ev.bindc (l1In_f _ _ _) (Ev.cases (fun h1 => ?_) (fun h1 => ?_))
    · rw [if_pos (of_decide_eq_true h1)]
      refine Ev.bindc (b := putI acc l[i].f0) (by unfold spec_l1Put.f; rw [if_pos (by omega)]) ?_
      have := putI_len acc l[i].f0
      exact ih (i + 1) _ (by omega) (by omega) (by omega)
    · rw [if_neg (by simpa using h1)]
      exact ih (i + 1) _ (by omega) (by omega) (by omega)
theorem onEv (h : Int) (l : List S44) (hP : Plan l) : Ev (fun k => spec_l25On.f k l h) (onS h l) := by
  unfold spec_l25On.f
  have := on_l0 h l hP.2 hP.1.1 _ 0 [] rfl (by omega) (by simp)
  rw [List.drop_zero, onS_fold h l hP.1.1 hP.1.2.2] at this
  simpa using this
noncomputable def onDutyT (l : List S44) (h : Int) : List Int × Bool := if planB l = true ∧ 0 ≤ h ∧ h ≤ 239 then (onS h l, true) else ([], false)
theorem onDutyT_len (l : List S44) (h : Int) : (onDutyT l h).1.length ≤ 20 := by
  unfold onDutyT
  split
  · rename_i hc
    have := (planB_true.1 hc.1).2
    have := onL_len h l
    simp only [onS_len]; omega
  · simp
theorem onDuty_impl (l : List S44) (h : Int) (hl : l.length ≤ 1099511627776) : Ev (fun k => impl_OnDuty.f k l h) (onDutyT l h) := by
  unfold impl_OnDuty.f onDutyT
  have hbad : ∀ x, x = true → Ev (fun k => impl_OnDuty.j0 k l h x) ([], false) := fun x hx => by
    subst hx
    refine Ev.step (fun k => by rw [impl_OnDuty.j0]) ?_
    exact Ev.pos rfl (Ev.now _)
  refine Ev.bind (isValidPlan l hl) (Ev.cases (fun h1 => ?_) (fun h1 => ?_))
  · refine Ev.bindc (within_f _ _ _) ?_
    by_cases h2 : 0 ≤ h ∧ h ≤ 239
    · rw [decide_eq_true h2, if_pos ⟨h1, h2⟩]
      have hP := planB_true.1 h1
      refine Ev.step (fun k => by rw [impl_OnDuty.j0]) ?_
      refine Ev.neg (by decide) (Ev.bind (onDutyEv h l hP) (Ev.bindc (b := onS h l) ?_ (Ev.now _)))
      have := onL_len h l
      have := hP.2
      unfold slices_Sort_int_int.f
      rw [if_pos (by omega)]; rfl
    · rw [decide_eq_false h2, if_neg (fun h => h2 h.2)]
      exact hbad _ rfl
  · rw [if_neg (fun h => h1 h.1)]
    exact hbad _ rfl
theorem onDuty_spec (l : List S44) (h : Int) (hl : l.length ≤ 1099511627776) : Ev (fun k => spec_OnDuty.f k l h) (onDutyT l h) := by
  unfold spec_OnDuty.f onDutyT
  refine Ev.bind (specGood l hl) (Ev.cases (fun h1 => ?_) (fun h1 => ?_))
  · refine Ev.bindc (l1In_f _ _ _) ?_
    by_cases h2 : 0 ≤ h ∧ h ≤ 239
    · rw [if_pos ⟨h1, h2⟩]
      exact Ev.pos (decide_eq_true h2) (Ev.bind (onEv h l (planB_true.1 h1)) (Ev.now _))
    · rw [if_neg (fun h => h2 h.2)]
      exact Ev.neg (by simpa using h2) (Ev.now _)
  · rw [if_neg (fun h => h1 h.1)]
    exact Ev.now _

/-! ### hours that are not covered -/
def uncL (l : List S44) (least : Int) : Nat → Int → List Int
  | 0, _ => []
  | n + 1, h => if ((onL h l).length : Int) < least then h :: uncL l least n (h + 1) else uncL l least n (h + 1)
theorem unc_l0 (l : List S44) (hP : Plan l) (b least : Int) (ht : b ≤ 240) : ∀ (d : Nat) (h : Int) (acc : List Int), (b - h).toNat = d → 0 ≤ h → acc.length ≤ h.toNat →
    Ev (fun k => impl_UncoveredHours.l0 k l b least acc h) (acc ++ uncL l least d h, true) := by
  intro d
  induction d with
  | zero =>
    intro h acc hd h0 ha
    refine Ev.step (fun k => by rw [impl_UncoveredHours.l0]) ?_
    refine Ev.neg (by omega) (Ev.const ?_)
    simp [uncL]
  | succ d ih =>
    intro h acc hd h0 ha
    refine Ev.step (fun k => by rw [impl_UncoveredHours.l0]) ?_
    refine Ev.pos (by omega) (Ev.bind (onDutyEv h l hP) ?_)
    rw [w64 (x := h + 1) (by omega) (by omega)]
    simp only [uncL]
    refine Ev.cases (fun h1 => ?_) (fun h1 => ?_)
    · rw [if_pos h1]
      refine Ev.pos (by omega) (Ev.eq (ih (h + 1) _ (by omega) (by omega) (by simp; omega)) (by simp))
    · rw [if_neg h1]
      exact ih (h + 1) _ (by omega) (by omega) (by omega)
theorem uncS_l0 (l : List S44) (hP : Plan l) (b least : Int) (ht : b ≤ 240) : ∀ (d : Nat) (h : Int) (acc : List Int), (b - h).toNat = d → 0 ≤ h → acc.length ≤ h.toNat →
    Ev (fun k => spec_UncoveredHours.l0 k l b least acc h) (acc ++ uncL l least d h, true) := by
  intro d
  induction d with
  | zero =>
    intro h acc hd h0 ha
    refine Ev.step (fun k => by rw [spec_UncoveredHours.l0]) ?_
    refine Ev.neg (by omega) (Ev.const ?_)
    simp [uncL]
  | succ d ih =>
    intro h acc hd h0 ha
    refine Ev.step (fun k => by rw [spec_UncoveredHours.l0]) ?_
    refine Ev.pos (by omega) (Ev.bind (onEv h l hP) ?_)
    rw [w64 (x := h + 1) (by omega) (by omega), onS_len]
    simp only [uncL]
    refine Ev.cases (fun h1 => ?_) (fun h1 => ?_)
    · rw [if_pos h1]
      refine Ev.pos (by omega) (Ev.eq (ih (h + 1) _ (by omega) (by omega) (by simp; omega)) (by simp))
    · rw [if_neg h1]
      exact ih (h + 1) _ (by omega) (by omega) (by omega)
noncomputable def uncT (l : List S44) (a b least : Int) : List Int × Bool := if planB l = true ∧ 0 ≤ a ∧ a ≤ b ∧ b ≤ 240 ∧ 1 ≤ least ∧ least ≤ 8 then (uncL l least (b - a).toNat a, true) else ([], false)
theorem uncL_len (l : List S44) (least : Int) : ∀ (n : Nat) (h : Int), (uncL l least n h).length ≤ n
  | 0, h => by simp [uncL]
  | n + 1, h => by
    have := uncL_len l least n (h + 1)
    simp only [uncL]
    split <;> simp <;> omega
theorem uncT_len (l : List S44) (a b least : Int) : (uncT l a b least).1.length ≤ 240 := by
  unfold uncT
  split
  · have := uncL_len l least (b - a).toNat a
    simp only; omega
  · simp
theorem unc_impl (l : List S44) (a b least : Int) (hl : l.length ≤ 1099511627776) : Ev (fun k => impl_UncoveredHours.f k l a b least) (uncT l a b least) := by
  unfold impl_UncoveredHours.f uncT
  have hbad : ∀ x, x = true → ¬ (planB l = true ∧ 0 ≤ a ∧ a ≤ b ∧ b ≤ 240 ∧ 1 ≤ least ∧ least ≤ 8) → Ev (fun k => impl_UncoveredHours.j0 k l a b least x) (if planB l = true ∧ 0 ≤ a ∧ a ≤ b ∧ b ≤ 240 ∧ 1 ≤ least ∧ least ≤ 8 then (uncL l least (b - a).toNat a, true) else ([], false)) := fun x hx hn => by
    subst hx
    rw [if_neg hn]
    refine Ev.step (fun k => by rw [impl_UncoveredHours.j0]) ?_
    exact Ev.pos rfl (Ev.now _)
  refine Ev.bind (isValidPlan l hl) (Ev.cases (fun h1 => ?_) (fun h1 => hbad _ rfl (fun h => h1 h.1)))
  refine Ev.cases (fun h2 => hbad _ rfl (by omega)) (fun h2 => Ev.cases (fun h3 => hbad _ rfl (by omega)) (fun h3 => Ev.cases (fun h4 => hbad _ rfl (by omega)) (fun h4 => ?_)))
  refine Ev.bindc (within_f _ _ _) ?_
  by_cases h5 : 1 ≤ least ∧ least ≤ 8
  · rw [decide_eq_true h5, if_pos ⟨h1, by omega, by omega, by omega, h5⟩]
    refine Ev.step (fun k => by rw [impl_UncoveredHours.j0]) ?_
    refine Ev.neg (by decide) (Ev.eq (unc_l0 l (planB_true.1 h1) b least (by omega) _ a [] rfl (by omega) (by simp)) (by simp))
  · rw [decide_eq_false h5]
    exact hbad _ rfl (fun h => h5 h.2.2.2.2)
theorem unc_spec (l : List S44) (a b least : Int) (hl : l.length ≤ 1099511627776) : Ev (fun k => spec_UncoveredHours.f k l a b least) (uncT l a b least) := by
  unfold spec_UncoveredHours.f uncT
  simp only [Option.bind_some]
  have hbad : ∀ x, x = true → ¬ (planB l = true ∧ 0 ≤ a ∧ a ≤ b ∧ b ≤ 240 ∧ 1 ≤ least ∧ least ≤ 8) → Ev (fun k => spec_UncoveredHours.j0 k l a b least [] x) (if planB l = true ∧ 0 ≤ a ∧ a ≤ b ∧ b ≤ 240 ∧ 1 ≤ least ∧ least ≤ 8 then (uncL l least (b - a).toNat a, true) else ([], false)) := fun x hx hn => by
    subst hx
    rw [if_neg hn]
    refine Ev.step (fun k => by rw [spec_UncoveredHours.j0]) ?_
    exact Ev.pos rfl (Ev.now _)
  refine Ev.bind (specGood l hl) (Ev.cases (fun h1 => ?_) (fun h1 => hbad _ rfl (fun h => h1 h.1)))
  refine Ev.cases (fun h2 => hbad _ rfl (by omega)) (fun h2 => Ev.cases (fun h3 => hbad _ rfl (by omega)) (fun h3 => Ev.cases (fun h4 => hbad _ rfl (by omega)) (fun h4 => ?_)))
  refine Ev.bindc (b := decide (1 ≤ least ∧ least ≤ 8)) (by unfold spec_l25Person.f; rw [l1In_f]; rfl) ?_
  by_cases h5 : 1 ≤ least ∧ least ≤ 8
  · rw [decide_eq_true h5, if_pos ⟨h1, by omega, by omega, by omega, h5⟩]
    refine Ev.step (fun k => by rw [spec_UncoveredHours.j0]) ?_
    refine Ev.neg (by decide) (Ev.eq (uncS_l0 l (planB_true.1 h1) b least (by omega) _ a [] rfl (by omega) (by simp)) (by simp))
  · rw [decide_eq_false h5]
    exact hbad _ rfl (fun h => h5 h.2.2.2.2)

/-! ### handovers -/
open Go.Lib in
theorem compact_mem (l : List Int) (x : Int) : x ∈ compact l ↔ x ∈ l := by
  unfold compact compactUpTo
  rw [List.mem_map]
  constructor
  · rintro ⟨j, hj, rfl⟩
    have hj' := List.mem_range.1 (List.mem_filter.1 hj).1
    simp [getElem!_pos, hj']
  · intro hx
    have : ∃ j, j < l.length ∧ l.toArray[j]! = x := by
      obtain ⟨j, hj, rfl⟩ := List.getElem_of_mem hx
      exact ⟨j, hj, by simp [getElem!_pos, hj]⟩
    obtain ⟨j, hj, he⟩ := this
    induction j using Nat.strongRecOn with
    | _ j ih =>
      by_cases hk : keeps l.toArray j = true
      · exact ⟨j, List.mem_filter.2 ⟨List.mem_range.2 hj, hk⟩, he⟩
      · have h1 : ¬ (j = 0 ∨ l.toArray[j]! ≠ l.toArray[j - 1]!) := by unfold keeps at hk; simpa using hk
        have h2 : l.toArray[j]! = l.toArray[j - 1]! := Classical.byContradiction fun h => h1 (.inr h)
        exact ih (j - 1) (by omega) (by omega) (by rw [← h2]; exact he)
open Go.Lib in
theorem compact_sorted (l : List Int) (h : l.Pairwise (· ≤ ·)) : (compact l).Pairwise (· < ·) := by
  unfold compact compactUpTo
  rw [List.pairwise_map]
  have h0 : ((List.range l.length).filter (keeps l.toArray)).Pairwise (· < ·) := List.Pairwise.filter _ List.pairwise_lt_range
  refine h0.imp_of_mem ?_
  intro i j hi hj hij
  have hj1 := List.mem_range.1 (List.mem_filter.1 hj).1
  have hj2 := (List.mem_filter.1 hj).2
  have h1 : j = 0 ∨ l.toArray[j]! ≠ l.toArray[j - 1]! := by unfold keeps at hj2; simpa using hj2
  have h2 := h1.resolve_left (by omega)
  have le : ∀ a b, a ≤ b → b < l.length → l.toArray[a]! ≤ l.toArray[b]! := fun a b hab hb => by
    rcases Nat.lt_or_ge a b with hlt | hge
    · have := List.pairwise_iff_getElem.1 h a b (by omega) hb hlt
      simpa [getElem!_pos, hb, show a < l.length by omega] using this
    · obtain rfl : a = b := by omega
      exact Int.le_refl _
  have a := le i (j - 1) (by omega) (by omega)
  have b := le (j - 1) j (by omega) hj1
  omega
/-- The ends of duties at which another begins, as they come. -/
def hoL (l : List S44) : List S44 → List Int
  | [] => []
  | d :: ds => if (l.any fun o => o.f1 == d.f2) = true then d.f2 :: hoL l ds else hoL l ds
theorem hoL_mem (l : List S44) : ∀ (m : List S44) (x : Int), x ∈ hoL l m ↔ ∃ d ∈ m, (l.any fun o => o.f1 == d.f2) = true ∧ d.f2 = x
  | [], x => by simp [hoL]
  | d :: ds, x => by
    simp only [hoL]
    split
    · rw [List.mem_cons, hoL_mem l ds x]
      constructor
      · rintro (rfl | ⟨d', h1, h2⟩)
        · exact ⟨d, by simp, by assumption, rfl⟩
        · exact ⟨d', by simp [h1], h2⟩
      · rintro ⟨d', h1, h2, h3⟩
        rcases List.mem_cons.1 h1 with rfl | h1
        · exact .inl h3.symm
        · exact .inr ⟨d', h1, h2, h3⟩
    · rw [hoL_mem l ds x]
      constructor
      · rintro ⟨d', h1, h2⟩; exact ⟨d', by simp [h1], h2⟩
      · rintro ⟨d', h1, h2, h3⟩
        rcases List.mem_cons.1 h1 with rfl | h1
        · contradiction
        · exact ⟨d', h1, h2, h3⟩
theorem hoL_len (l : List S44) : ∀ (m : List S44), (hoL l m).length ≤ m.length
  | [] => by simp [hoL]
  | d :: ds => by
    have := hoL_len l ds
    simp only [hoL]
    split <;> simp <;> omega
def hoS (l : List S44) : List Int := Lib.compact ((hoL l l).mergeSort fun x y => decide (x ≤ y))
theorem hoS_sorted (l : List S44) : (hoS l).Pairwise (· < ·) := compact_sorted _ (mergeI_le _)
theorem hoS_mem (l : List S44) (x : Int) : x ∈ hoS l ↔ x ∈ hoL l l := by
  unfold hoS
  rw [compact_mem, (List.mergeSort_perm _ _).mem_iff]
theorem hoS_len (l : List S44) : (hoS l).length ≤ l.length := by
  unfold hoS
  have := compact_len ((hoL l l).mergeSort fun x y => decide (x ≤ y))
  rw [List.length_mergeSort] at this
  have := hoL_len l l
  omega
noncomputable def hoT (l : List S44) : List Int × Bool := if planB l = true then (hoS l, true) else ([], false)
theorem hoT_len (l : List S44) : (hoT l).1.length ≤ 20 := by
  unfold hoT
  split
  · rename_i h
    have := (planB_true.1 h).2
    have := hoS_len l
    simp only; omega
  · simp
theorem ho_l0 (l : List S44) (hl : l.length ≤ 20) : ∀ (d i : Nat) (acc : List Int), l.length - i = d → i ≤ l.length → acc.length ≤ i →
    Ev (fun k => impl_HandoverHours.l0 k l acc l (l.length : Int) (i : Int)) (Lib.compact ((acc ++ hoL l (l.drop i)).mergeSort fun x y => decide (x ≤ y)), true) := by
  intro d
  induction d with
  | zero =>
    intro i acc hd hi ha
    refine Ev.step (fun k => by rw [impl_HandoverHours.l0]) ?_
    refine Ev.neg (by omega) ?_
    rw [List.drop_of_length_le (by omega)]
    simp only [hoL, List.append_nil]
    refine Ev.bindc (b := acc.mergeSort fun x y => decide (x ≤ y)) (by unfold slices_Sort_int_int.f; rw [if_pos (by omega)]) ?_
    exact Ev.bindc (b := Lib.compact (acc.mergeSort fun x y => decide (x ≤ y))) rfl (Ev.now _)
  | succ d ih =>
    intro i acc hd hi ha
    have hlt : i < l.length := by omega
    refine Ev.step (fun k => by rw [impl_HandoverHours.l0]) ?_
    refine Ev.pos (by omega) (Ev.pos (by omega) (Ev.pos (by omega) ?_))
    rw [rdP_lt l i hlt, w64 (x := (i : Int) + 1) (by omega) (by omega), show (i : Int) + 1 = ((i + 1 : Nat) : Int) from by omega, drop_cons' l i hlt]
    simp only [hoL]
    refine Ev.bindc (b := l.any fun o => o.f1 == l[i].f2) rfl (Ev.cases (fun h1 => ?_) (fun h1 => ?_))
    · rw [if_pos h1]
      refine Ev.pos (by omega) (Ev.eq (ih (i + 1) _ (by omega) (by omega) (by simp; omega)) (by simp))
    · rw [if_neg h1]
      exact ih (i + 1) _ (by omega) (by omega) (by omega)
theorem ho_impl (l : List S44) (hl : l.length ≤ 1099511627776) : Ev (fun k => impl_HandoverHours.f k l) (hoT l) := by
  unfold impl_HandoverHours.f hoT
  refine Ev.bind (isValidPlan l hl) (Ev.cases (fun h1 => ?_) (fun h1 => by rw [if_neg h1]; exact Ev.now _))
  rw [if_pos h1]
  have h := ho_l0 l (planB_true.1 h1).2 _ 0 [] rfl (by omega) (by simp)
  simpa [hoS] using h
/-- What the reference's inner loop adds. -/
def inL (v : Int) : List S44 → List Int → List Int
  | [], out => out
  | o :: os, out => inL v os (if v = o.f1 then putI out v else out)
def outL (l : List S44) : List S44 → List Int → List Int
  | [], out => out
  | d :: ds, out => outL l ds (inL d.f2 l out)
theorem inL_mem (v : Int) : ∀ (os : List S44) (out : List Int) (x : Int), x ∈ inL v os out ↔ x ∈ out ∨ ((os.any fun o => o.f1 == v) = true ∧ v = x)
  | [], out, x => by simp [inL]
  | o :: os, out, x => by
    simp only [inL]
    rw [inL_mem v os]
    by_cases e : v = o.f1
    · rw [if_pos e, putI_mem]
      have e2 : (o.f1 == v) = true := by simp [e]
      simp only [List.any_cons, e2, Bool.true_or, true_and]
      constructor
      · rintro ((h | h) | h)
        · exact .inr h.symm
        · exact .inl h
        · exact .inr h.2
      · rintro (h | h)
        · exact .inl (.inr h)
        · exact .inl (.inl h.symm)
    · rw [if_neg e]
      have e2 : (o.f1 == v) = false := by simp; omega
      simp only [List.any_cons, e2, Bool.false_or]
theorem inL_sorted (v : Int) : ∀ (os : List S44) (out : List Int), out.Pairwise (· < ·) → (inL v os out).Pairwise (· < ·)
  | [], out, h => h
  | o :: os, out, h => by
    simp only [inL]
    refine inL_sorted v os _ ?_
    split
    · exact putI_sorted _ _ h
    · exact h
theorem inL_len (v : Int) : ∀ (os : List S44) (out : List Int), (inL v os out).length ≤ out.length + os.length
  | [], out => by simp [inL]
  | o :: os, out => by
    simp only [inL]
    have h1 := inL_len v os (if v = o.f1 then putI out v else out)
    have h2 : (if v = o.f1 then putI out v else out).length ≤ out.length + 1 := by
      split
      · exact putI_len _ _
      · omega
    simp; omega
theorem outL_mem (l : List S44) : ∀ (ds : List S44) (out : List Int) (x : Int), x ∈ outL l ds out ↔ x ∈ out ∨ x ∈ hoL l ds
  | [], out, x => by simp [outL, hoL]
  | d :: ds, out, x => by
    simp only [outL]
    rw [outL_mem l ds, inL_mem]
    simp only [hoL]
    split
    · rename_i h
      rw [h, List.mem_cons]
      constructor
      · rintro ((h | h) | h)
        · exact .inl h
        · exact .inr (.inl h.2.symm)
        · exact .inr (.inr h)
      · rintro (h | h | h)
        · exact .inl (.inl h)
        · exact .inl (.inr ⟨rfl, h.symm⟩)
        · exact .inr h
    · rename_i h
      constructor
      · rintro ((h2 | h2) | h2)
        · exact .inl h2
        · exact absurd h2.1 h
        · exact .inr h2
      · rintro (h2 | h2)
        · exact .inl (.inl h2)
        · exact .inr h2
theorem outL_sorted (l : List S44) : ∀ (ds : List S44) (out : List Int), out.Pairwise (· < ·) → (outL l ds out).Pairwise (· < ·)
  | [], out, h => h
  | d :: ds, out, h => outL_sorted l ds _ (inL_sorted _ _ _ h)
theorem hoS_out (l : List S44) : outL l l [] = hoS l :=
  int_ext _ _ (outL_sorted l l [] (by simp)) (hoS_sorted l) (fun x => by rw [outL_mem, hoS_mem]; simp)
theorem hoS_l1 (l : List S44) (hl : l.length ≤ 20) (i : Nat) (hi : i < l.length) (r : List Int × Bool) (acc : List Int) (ha : acc.length ≤ 20 * i) (hK : Ev (fun k => spec_HandoverHours.l0 k l (inL l[i].f2 l acc) ((i + 1 : Nat) : Int)) r) :
    ∀ (d j : Nat) (out : List Int), l.length - j = d → j ≤ l.length → out.length ≤ 20 * i + j → inL l[i].f2 (l.drop j) out = inL l[i].f2 l acc → Ev (fun k => spec_HandoverHours.l1 k l out (i : Int) (j : Int)) r := by
  intro d
  induction d with
  | zero =>
    intro j out hd hj ho he
    refine Ev.step (fun k => by rw [spec_HandoverHours.l1]) ?_
    refine Ev.neg (by omega) ?_
    rw [w64 (by omega) (by omega), show (i : Int) + 1 = ((i + 1 : Nat) : Int) from by omega]
    rw [List.drop_of_length_le (by omega)] at he
    simp only [inL] at he
    rw [he]; exact hK
  | succ d ih =>
    intro j out hd hj ho he
    have hlt : j < l.length := by omega
    refine Ev.step (fun k => by rw [spec_HandoverHours.l1]) ?_
    refine Ev.pos (by omega) (Ev.pos (by omega) (Ev.pos (by omega) (Ev.pos (by omega) ?_)))
    rw [rdP_lt l i hi, rdP_lt l j hlt, w64 (x := (j : Int) + 1) (by omega) (by omega), show (j : Int) + 1 = ((j + 1 : Nat) : Int) from by omega]
    rw [drop_cons' l j hlt] at he
    simp only [inL] at he
    refine Ev.cases (fun h1 => ?_) (fun h1 => ?_)
    · rw [if_pos h1] at he
      refine Ev.bindc (b := putI out l[i].f2) (by unfold spec_l1Put.f; rw [if_pos (by omega)]) ?_
      have := putI_len out l[i].f2
      exact ih (j + 1) _ (by omega) (by omega) (by omega) he
    · rw [if_neg h1] at he
      exact ih (j + 1) _ (by omega) (by omega) (by omega) he
theorem hoS_l0 (l : List S44) (hl : l.length ≤ 20) : ∀ (d i : Nat) (acc : List Int), l.length - i = d → i ≤ l.length → acc.length ≤ 20 * i →
    Ev (fun k => spec_HandoverHours.l0 k l acc (i : Int)) (outL l (l.drop i) acc, true) := by
  intro d
  induction d with
  | zero =>
    intro i acc hd hi ha
    refine Ev.step (fun k => by rw [spec_HandoverHours.l0]) ?_
    refine Ev.neg (by omega) (Ev.const ?_)
    rw [List.drop_of_length_le (by omega)]; rfl
  | succ d ih =>
    intro i acc hd hi ha
    have hlt : i < l.length := by omega
    refine Ev.step (fun k => by rw [spec_HandoverHours.l0]) ?_
    refine Ev.pos (by omega) ?_
    rw [drop_cons' l i hlt]
    simp only [outL]
    have := inL_len l[i].f2 l acc
    exact hoS_l1 l hl i hlt _ acc ha (ih (i + 1) _ (by omega) (by omega) (by omega)) _ 0 acc rfl (by omega) (by omega) (by simp)
theorem ho_spec (l : List S44) (hl : l.length ≤ 1099511627776) : Ev (fun k => spec_HandoverHours.f k l) (hoT l) := by
  unfold spec_HandoverHours.f hoT
  simp only [Option.bind_some]
  refine Ev.bind (specGood l hl) (Ev.cases (fun h1 => ?_) (fun h1 => by rw [if_neg h1]; exact Ev.now _))
  rw [if_pos h1]
  have h := hoS_l0 l (planB_true.1 h1).2 _ 0 [] rfl (by omega) (by simp)
  rw [List.drop_zero, hoS_out] at h
  simpa using h
end Go.Proofs.Ythhjhbndnipdgaa.Pure

namespace Go.Proofs.Ythhjhbndnipdgaa.Pure
open Go.RowKit Go.Proofs.Ythhjhbndnipdgaa.P Go.Proofs.YthhjhbndnipdgaaW.PrintWords Go.Proofs.YthhjhbndnipdgaaW.PrintLast
set_option linter.unusedVariables false

theorem FnExactHandoverHours (l : List S41) (hm0 : l.length ≤ maxLen) (_ : ∀ z ∈ l, (Lit.int .i64 z.f0).wf = true ∧ (Lit.int .i64 z.f1).wf = true ∧ (Lit.int .i64 z.f2).wf = true) : ∃ k, laws_FnExactHandoverHours.f k l = some true := by
  have hm : l.length ≤ 9223372036854775807 := Nat.le_trans hm0 (by decide)
  apply Ev.rounds
  unfold laws_FnExactHandoverHours.f
  obtain ⟨t, ht, hl⟩ := szDuty_f l hm
  refine Ev.bindc ht (Ev.cases (fun _ => Ev.now _) (fun ht0 => ?_))
  have hl := hl ht0
  have td := toDutyS l hl
  have hlen : (l.map convD).length ≤ 1048576 := by simpa using hl
  have sp := ho_spec (l.map convD) (by omega)
  have im := ho_impl (l.map convD) (by omega)
  have ql := hoT_len (l.map convD)
  generalize hoT (l.map convD) = q at sp im ql
  obtain ⟨q0, q1⟩ := q
  simp only at ql
  have eq := eqDuty_refl (l.map convD) (by omega)
  have e1 := Ev.eq (eqIntS q0 q0 (by omega)) (show decide (q0 = q0) = true by simp)
  have m1 := markDuty (l.map convD) 1 (by omega) (by omega) (by omega)
  have m2 := mark q0 (by omega)
  have h2 := held q0.length (by omega)
  refine Ev.bind td (Ev.bind sp (Ev.bind td (Ev.bind im (Ev.bind e1 (Ev.pos rfl ?_)))))
  refine Ev.step (fun k => by rw [laws_FnExactHandoverHours.j0]) ?_
  refine Ev.neg (by simp) (Ev.bind td (Ev.bind eq (Ev.pos rfl (Ev.bind m1 (Ev.neg (by simp only; omega) (Ev.bind e1 (Ev.pos rfl ?_)))))))
  refine Ev.step (fun k => by rw [laws_FnExactHandoverHours.j1]) ?_
  refine Ev.neg (by simp) (Ev.bind m2 (Ev.bind h2 (Ev.neg (by omega) (Ev.pos rfl (Ev.bind td (Ev.bind im (Ev.bind e1 (Ev.pos rfl ?_))))))))
  refine Ev.step (fun k => by rw [laws_FnExactHandoverHours.j2]) ?_
  exact Ev.neg (by simp) (Ev.bind h2 (Ev.neg (by omega) (Ev.pos rfl (Ev.now _))))
end Go.Proofs.Ythhjhbndnipdgaa.Pure
