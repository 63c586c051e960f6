/- A stored product is valid at its hour, and archives are recovered from their texts. Conditions: none beyond the given statement's. -/
import Derived.Test.YtgmmanppmjlclaaGreatDoorPx9
import Derived.Test.YtgmmanppmjlclaaGreatDoorPx19
import Derived.Test.YtgmmanppmjlclaaGreatDoorPx29
import Derived.Test.YtgmmanppmjlclaaGreatDoorPx30
import Derived.Test.YtgmmanppmjlclaaGreatDoorPx32
import Derived.Test.YtgmmanppmjlclaaGreatDoorPx0
import Derived.Test.YtgmmanppmjlclaaGreatDoorPx6
import Derived.Test.YtgmmanppmjlclaaGreatDoorPx3
import Derived.Test.YtgmmanppmjlclaaGreatDoorPx14
import Derived.Test.YtgmmanppmjlclaaGreatDoorPx11
import Derived.Test.YtgmmanppmjlclaaGreatDoorPx13
import Derived.Test.YtgmmanppmjlclaaGreatDoorPx4
import Derived.Sort.Walk0
import Derived.Test.YtgmmanppmjlclaaGreatDoorPx10
import Derived.Test.YtgmmanppmjlclaaGreatDoorPx5
import Derived.Test.YtgmmanppmjlclaaGreatDoorPx7
import Derived.Test.YtgmmanppmjlclaaGreatDoorPx8
import Derived.Test.YtgmmanppmjlclaaGreatDoorPx16
import Derived.Test.YtgmmanppmjlclaaGreatDoorPx18
import Derived.Lib.SlicesCompact
import Derived.Test.YtgmmanppmjlclaaGreatDoorPx31
import Derived.Lib.ItoaLen
import Derived.Test.YtgmmanppmjlclaaGreatDoorPx21
import Derived.Test.YtgmmanppmjlclaaGreatDoorPx20
import Derived.Test.YtgmmanppmjlclaaGreatDoorPx23
import Derived.Test.YtgmmanppmjlclaaGreatDoorPx24
import Derived.Test.YtgmmanppmjlclaaGreatDoorPx25
import Derived.Lib.AtoiTie
import Derived.Lib.ItoaMem
import Derived.Test.YtgmmanppmjlclaaGreatDoorPx27
import Derived.Test.YtgmmanppmjlclaaGreatDoorPx22
import Derived.Test.YtgmmanppmjlclaaGreatDoorPx28
import Derived.Test.YtgmmanppmjlclaaGreatDoorPx17
/- Small laws on "with enough rounds the function answers r" (Ev) and on wrapping sums; used by every plain law of this seat. -/
namespace Go.Proofs.YtgmmanppmjlclaaGreatDoor.Pure
open Go.RowKit Go.Proofs.YtgmmanppmjlclaaGreatDoorW.PrintWords Go.Proofs.YtgmmanppmjlclaaGreatDoorW.PrintLast

section
variable {α β : Type} {r : α} {f g : Nat → Option α}
theorem Ev.pos {c : Prop} [Decidable c] (h : c) (e : Ev f r) : Ev (fun k => if c then f k else g k) r := e.congr fun _ => if_pos h
theorem Ev.neg {c : Prop} [Decidable c] (h : ¬ c) (e : Ev g r) : Ev (fun k => if c then f k else g k) r := e.congr fun _ => if_neg h
theorem Ev.const {a : Option α} (h : a = some r) : Ev (fun _ => a) r := ⟨0, fun _ _ => h⟩
theorem Ev.bindc {a : Option β} {b : β} {f : Nat → β → Option α} (h : a = some b) (k : Ev (fun n => f n b) r) : Ev (fun n => a.bind (f n)) r := Ev.bind (Ev.const h) k
theorem Ev.eq {r' : α} (h : Ev f r) (e : r = r') : Ev f r' := e ▸ h
theorem Ev.cases {c : Prop} [Decidable c] (h1 : c → Ev f r) (h2 : ¬ c → Ev g r) : Ev (fun k => if c then f k else g k) r := by
  by_cases h : c
  · exact Ev.pos h (h1 h)
  · exact Ev.neg h (h2 h)
end

theorem w64 {x : Int} (h1 : -9223372036854775808 ≤ x) (h2 : x ≤ 9223372036854775807) : wrap64 x = x := by unfold wrap64; omega

theorem rd_lt (l : List Int) (i : Nat) (h : i < l.length) : rd l (i : Int) = l[i] := by simp [rd, h]
theorem take_succ' {α : Type} (l : List α) (i : Nat) (h : i < l.length) : l.take (i + 1) = l.take i ++ [l[i]] := by
  rw [List.take_succ_eq_append_getElem h]
theorem drop_cons' {α : Type} (l : List α) (i : Nat) (h : i < l.length) : l.drop i = l[i] :: l.drop (i + 1) := List.drop_eq_getElem_cons h
end Go.Proofs.YtgmmanppmjlclaaGreatDoor.Pure

/- The reader of choices: it always gives a choice in its range and goes on by a bounded step. -/
namespace Go.Proofs.YtgmmanppmjlclaaGreatDoor.Pure
open Go.RowKit Go.Proofs.YtgmmanppmjlclaaGreatDoor.P Go.Proofs.YtgmmanppmjlclaaGreatDoorW.PrintWords Go.Proofs.YtgmmanppmjlclaaGreatDoorW.PrintLast

/-- The bytes that are read. -/
def Code (l : List Int) : Prop := ∀ x ∈ l, 0 ≤ x ∧ x ≤ 255
theorem code_of {l : List Int} (h : ∀ x ∈ l, (Lit.int .u8 x).wf = true) : Code l := fun x hx => by
  have := h x hx
  simp only [Lit.wf, Bool.and_eq_true, decide_eq_true_eq] at this
  exact this
theorem rd_code {l : List Int} (h : Code l) (i : Int) (h0 : 0 ≤ i) (h1 : i < l.length) : 0 ≤ rd l i ∧ rd l i ≤ 255 := by
  obtain ⟨n, rfl⟩ : ∃ n : Nat, i = n := ⟨i.toNat, by omega⟩
  rw [rd_lt l n (by omega)]
  exact h _ (List.getElem_mem (by omega))
theorem wrap_u64' (n : Int) : IntKind.u64.wrap n = n % 18446744073709551616 := by simp [IntKind.wrap, IntKind.bits, IntKind.signed]
theorem byte_of (n : Int) : 0 ≤ Go.bits .and .u64 (IntKind.u64.wrap n / 1099511627776) 255 ∧ Go.bits .and .u64 (IntKind.u64.wrap n / 1099511627776) 255 ≤ 255 := by
  rw [wrap_u64']
  have h := bits_mask .u64 24 (by decide) (fun n h0 h1 => by rw [wrap_u64']; omega) 8 (by decide) (n % 18446744073709551616 / 1099511627776) (by omega) (by omega)
  simp only [show ((2 : Int) ^ 8) = 256 from by decide, show ((256 : Int) - 1) = 255 from by decide] at h
  rw [h]; omega

/-- Where the reader stands: not far from the begin. -/
def At (a : Int) (n : Nat) : Prop := 0 ≤ a ∧ a ≤ n ∧ n ≤ 1000000000
theorem At.le {a : Int} {n m : Nat} (h : At a n) (hn : n ≤ m) (hm : m ≤ 1000000000) : At a m := ⟨h.1, by have := h.2.1; omega, hm⟩

theorem next_ok {l : List Int} (hc : Code l) {a s : Int} {n : Nat} (h : At a n) (hn : n + 1 ≤ 1000000000) : ∃ b a' s', spec_l1Cur_next.f l a s = some (b, a', s') ∧ 0 ≤ b ∧ b ≤ 255 ∧ At a' (n + 1) := by
  obtain ⟨h0, h1, h2⟩ := h
  have hw : wrap64 (a + 1) = a + 1 := w64 (by omega) (by omega)
  have ha : At (a + 1) (n + 1) := ⟨by omega, by omega, hn⟩
  unfold spec_l1Cur_next.f
  rw [hw]
  by_cases c1 : a < (l.length : Int)
  · have hr := rd_code hc a h0 c1
    rw [if_pos c1, if_pos h0, if_pos (by omega), w64 (x := rd l a) (by omega) (by omega)]
    exact ⟨_, _, _, rfl, hr.1, hr.2, ha⟩
  · rw [if_neg c1, if_neg (by omega)]
    have hb := byte_of (IntKind.u64.wrap (IntKind.u64.wrap (s * 6364136223846793005) + 0) + 889889)
    rw [w64 (x := Go.bits .and .u64 _ 255) (by omega) (by omega)]
    exact ⟨_, _, _, rfl, hb.1, hb.2, ha⟩
theorem pick_ok {l : List Int} (hc : Code l) {a s : Int} {n : Nat} (h : At a n) (hn : n + 2 ≤ 1000000000) (m : Int) (hm : m ≤ 1000000) : ∃ b a' s', spec_l1Cur_pick.f l a s m = some (b, a', s') ∧ 0 ≤ b ∧ (b < m ∨ b = 0) ∧ At a' (n + 2) := by
  unfold spec_l1Cur_pick.f
  by_cases c : m ≤ 1
  · rw [if_pos c]; exact ⟨_, _, _, rfl, by omega, .inr rfl, h.le (by omega) hn⟩
  · rw [if_neg c]
    obtain ⟨b, a', s', e, hb0, hb1, h'⟩ := next_ok hc (s := s) h (by omega)
    rw [e]
    simp only [Option.bind_some]
    by_cases c2 : m > 200
    · rw [if_pos c2]
      obtain ⟨b2, a2, s2, e2, hc0, hc1, h2⟩ := next_ok hc (s := s') h' (by omega)
      rw [e2]
      simp only [Option.bind_some]
      rw [if_neg (by omega), w64 (x := b * 256) (by omega) (by omega), w64 (x := b * 256 + b2) (by omega) (by omega)]
      refine ⟨_, _, _, rfl, Int.tmod_nonneg _ (by omega), .inl (Int.tmod_lt_of_pos _ (by omega)), h2.le (by omega) (by omega)⟩
    · rw [if_neg c2, if_neg (by omega)]
      exact ⟨_, _, _, rfl, Int.tmod_nonneg _ hb0, .inl (Int.tmod_lt_of_pos _ (by omega)), h'.le (by omega) (by omega)⟩
end Go.Proofs.YtgmmanppmjlclaaGreatDoor.Pure

/- The reader of choices: yes or no. -/
namespace Go.Proofs.YtgmmanppmjlclaaGreatDoor.Pure
open Go.RowKit Go.Proofs.YtgmmanppmjlclaaGreatDoor.P Go.Proofs.YtgmmanppmjlclaaGreatDoorW.PrintWords Go.Proofs.YtgmmanppmjlclaaGreatDoorW.PrintLast

theorem one_ok {l : List Int} (hc : Code l) {a s : Int} {n : Nat} (h : At a n) (hn : n + 2 ≤ 1000000000) (m : Int) (hm : m ≤ 1000000) : ∃ b a' s', spec_l1Cur_one.f l a s m = some (b, a', s') ∧ At a' (n + 2) := by
  unfold spec_l1Cur_one.f
  obtain ⟨b, a', s', e, _, _, h'⟩ := pick_ok hc (s := s) h hn m hm
  rw [e]
  exact ⟨_, _, _, rfl, h'⟩
end Go.Proofs.YtgmmanppmjlclaaGreatDoor.Pure

/- Texts as lists of bytes: joins, cuts, single bytes, equality. -/
namespace Go.Proofs.YtgmmanppmjlclaaGreatDoor.Pure
open Go.RowKit Go.Proofs.YtgmmanppmjlclaaGreatDoor.P Go.Proofs.YtgmmanppmjlclaaGreatDoorW.PrintWords Go.Proofs.YtgmmanppmjlclaaGreatDoorW.PrintLast

def bs (s : ByteArray) : List UInt8 := s.data.toList
theorem bs_size (s : ByteArray) : (bs s).length = s.size := by rw [bs, Array.length_toList]; rfl
theorem bs_inj {s t : ByteArray} (h : bs s = bs t) : s = t := by
  cases s; cases t; simp [bs] at h; rw [h]
theorem bs_mk (l : List UInt8) : bs ⟨l.toArray⟩ = l := by simp [bs]
theorem bs_append (s t : ByteArray) : bs (s ++ t) = bs s ++ bs t := by simp [bs]
theorem bs_extract (s : ByteArray) (i j : Nat) : bs (s.extract i j) = ((bs s).drop i).take (j - i) := by simp [bs, List.take_drop]
theorem toList_bs (s : ByteArray) : s.toList = bs s := ByteArray.toList_eq s
theorem size_mk (l : List UInt8) : (⟨l.toArray⟩ : ByteArray).size = l.length := by rw [← bs_size, bs_mk]
theorem bt_bs (s : ByteArray) (i : Nat) (h : i < (bs s).length) : bt s (i : Int) = (((bs s)[i]).toNat : Int) := by
  have h2 : ((i : Int)).toNat < s.size := by rw [bs_size] at h; simpa using h
  rw [← bt_at s (i : Int) h2]
  simp [bs]
  rfl
theorem bs_one (c : UInt8) : bs ⟨#[c]⟩ = [c] := rfl
theorem bs_nil : bs ⟨#[]⟩ = [] := rfl
theorem l1In_f (x a b : Int) : spec_l1In.f x a b = some (decide (a ≤ x) && decide (x ≤ b)) := by
  unfold spec_l1In.f
  by_cases h : x ≥ a
  · simp [h]
  · simp [h]
theorem within_f (x a b : Int) : impl_within.f x a b = some (decide (a ≤ x) && decide (x ≤ b)) := by
  unfold impl_within.f
  by_cases h : x ≥ a
  · simp [h]
  · simp [h]

end Go.Proofs.YtgmmanppmjlclaaGreatDoor.Pure

/- Printed texts: the program's test of a text's bytes. -/
namespace Go.Proofs.YtgmmanppmjlclaaGreatDoor.Pure
open Go.RowKit Go.Proofs.YtgmmanppmjlclaaGreatDoor.P Go.Proofs.YtgmmanppmjlclaaGreatDoorW.PrintWords Go.Proofs.YtgmmanppmjlclaaGreatDoorW.PrintLast
set_option linter.unusedVariables false

def plainB (l : List UInt8) : Bool := l.all fun b => decide (32 ≤ b.toNat) && decide (b.toNat ≤ 126)
theorem containsAny_any (cs : List UInt8) : ∀ l : List UInt8, Lib.containsAny l cs = l.any fun b => cs.contains b
  | [] => rfl
  | b :: l => by
    have ih := containsAny_any cs l
    have h0 := Lib.indexAny_ge cs l
    unfold Lib.containsAny at ih ⊢
    rw [List.any_cons, ← ih, Lib.indexAny]
    cases hc : cs.contains b
    · rw [if_neg (by simp), Bool.false_or]
      by_cases h : Lib.indexAny l cs = -1
      · rw [h]; rfl
      · rw [if_neg (by simpa using h)]
        exact decide_eq_decide.mpr (by omega)
    · rw [if_pos rfl, Bool.true_or]; rfl
theorem plain_ascii {s : ByteArray} (h : plainB (bs s) = true) : asciiB s = true := by
  refine List.all_eq_true.mpr fun b hb => ?_
  have := List.all_eq_true.mp h b hb
  simp only [Bool.and_eq_true, decide_eq_true_eq] at this ⊢
  omega
theorem isPrinted_l0 (s w : ByteArray) (hs : s.size < 4294967281) (hw : asciiB w = true) (hw2 : w.size < 4294967281) : ∀ (d i : Nat), s.size - i = d → i ≤ s.size → plainB ((bs s).take i) = true →
    Ev (fun k => impl_isPrinted.l0 k s w (i : Int)) (plainB ((bs s).drop i) && !(bs s).any fun b => (bs w).contains b) := by
  have hl := bs_size s
  intro d
  induction d with
  | zero =>
    intro i hd hi hp
    rw [List.take_of_length_le (by omega)] at hp
    refine Ev.step (fun k => by rw [impl_isPrinted.l0]) ?_
    refine Ev.neg (by omega) (Ev.bindc (b := (bs s).any fun b => (bs w).contains b) ?_ (Ev.const ?_))
    · unfold strings_ContainsAny.f
      rw [if_pos (by rw [plain_ascii hp, hw]; simp; omega)]
      exact congrArg some (containsAny_any _ _)
    · rw [List.drop_of_length_le (by omega)]; rfl
  | succ d ih =>
    intro i hd hi hp
    have hb := bt_bs s i (by omega)
    have hc : (bs s).drop i = (bs s)[i]'(by omega) :: (bs s).drop (i + 1) := List.drop_eq_getElem_cons (by omega)
    refine Ev.step (fun k => by rw [impl_isPrinted.l0]) ?_
    refine Ev.pos (by omega) (Ev.pos (by omega) ?_)
    rw [hc, hb, w64 (by omega) (by omega), show (i : Int) + 1 = ((i + 1 : Nat) : Int) from by omega]
    have e1 : plainB ((bs s)[i]'(by omega) :: (bs s).drop (i + 1)) = ((decide (32 ≤ ((bs s)[i]'(by omega)).toNat) && decide (((bs s)[i]'(by omega)).toNat ≤ 126)) && plainB ((bs s).drop (i + 1))) := List.all_cons
    refine Ev.cases (fun h => ?_) (fun h => Ev.cases (fun h2 => ?_) (fun h2 => ?_))
    · exact Ev.const (by rw [e1, decide_eq_false (by omega)]; rfl)
    · exact Ev.const (by rw [e1, decide_eq_false (show ¬ ((bs s)[i]'(by omega)).toNat ≤ 126 by omega), Bool.and_false]; rfl)
    · refine Ev.eq (ih (i + 1) (by omega) (by omega) ?_) ?_
      · rw [List.take_succ_eq_append_getElem (by omega)]
        unfold plainB at hp ⊢
        rw [List.all_append, hp]
        simp only [List.all_cons, List.all_nil, Bool.and_true, Bool.true_and, Bool.and_eq_true, decide_eq_true_eq]
        omega
      · rw [e1, decide_eq_true (by omega), decide_eq_true (by omega)]; rfl
theorem isPrinted (s w : ByteArray) (hs : s.size < 4294967281) (hw : asciiB w = true) (hw2 : w.size < 4294967281) : Ev (fun k => impl_isPrinted.f k s w) (plainB (bs s) && !(bs s).any fun b => (bs w).contains b) := by
  unfold impl_isPrinted.f
  exact isPrinted_l0 s w hs hw hw2 _ 0 rfl (by omega) rfl
end Go.Proofs.YtgmmanppmjlclaaGreatDoor.Pure

/- The laws' own helpers on lists of products and of texts: a copy, an equality, marks and their check. -/
namespace Go.Proofs.YtgmmanppmjlclaaGreatDoor.Pure
open Go.RowKit Go.Proofs.YtgmmanppmjlclaaGreatDoor.P Go.Proofs.YtgmmanppmjlclaaGreatDoorW.PrintWords Go.Proofs.YtgmmanppmjlclaaGreatDoorW.PrintLast
set_option linter.unusedVariables false

theorem rdP_lt (l : List S26) (i : Nat) (h : i < l.length) : rd_T26 l (i : Int) = l[i] := by simp [rd_T26, h]
/-! ### marks -/
end Go.Proofs.YtgmmanppmjlclaaGreatDoor.Pure

/- What an archive is, and that the program and the reference both say so. -/
namespace Go.Proofs.YtgmmanppmjlclaaGreatDoor.Pure
open Go.RowKit Go.Proofs.YtgmmanppmjlclaaGreatDoor.P Go.Proofs.YtgmmanppmjlclaaGreatDoorW.PrintWords Go.Proofs.YtgmmanppmjlclaaGreatDoorW.PrintLast
set_option linter.unusedVariables false
set_option linter.unusedSimpArgs false

def nameB (l : List UInt8) : Bool := (l.all fun b => decide (97 ≤ b.toNat) && decide (b.toNat ≤ 122)) && (decide (1 ≤ (l.length : Int)) && decide ((l.length : Int) ≤ 8))
def prodB (d : S26) : Bool := nameB (bs d.f0) && ((decide (0 ≤ d.f1) && decide (d.f1 ≤ 240)) && (decide ((d.f2.size : Int) ≤ 60) && plainB (bs d.f2)))

/-! ### names -/
theorem name_l0 (s : ByteArray) (hs : s.size ≤ 4611686018427387904) : ∀ (d i : Nat), s.size - i = d → i ≤ s.size →
    Ev (fun k => impl_isProductName.l0 k s (i : Int)) ((((bs s).drop i).all fun b => decide (97 ≤ b.toNat) && decide (b.toNat ≤ 122)) && (decide (1 ≤ ((bs s).length : Int)) && decide (((bs s).length : Int) ≤ 8))) := by
  have hl := bs_size s
  intro d
  induction d with
  | zero =>
    intro i hd hi
    refine Ev.step (fun k => by rw [impl_isProductName.l0]) ?_
    refine Ev.neg (by omega) (Ev.bindc (within_f _ _ _) (Ev.const ?_))
    rw [List.drop_of_length_le (by omega), hl]; rfl
  | succ d ih =>
    intro i hd hi
    have hlt : i < (bs s).length := by omega
    have hb := bt_bs s i hlt
    refine Ev.step (fun k => by rw [impl_isProductName.l0]) ?_
    refine Ev.pos (by omega) (Ev.pos (by omega) ?_)
    rw [hb, w64 (by omega) (by omega), show (i : Int) + 1 = ((i + 1 : Nat) : Int) from by omega, drop_cons' _ i hlt, List.all_cons]
    refine Ev.cases (fun h => ?_) (fun h => Ev.cases (fun h2 => ?_) (fun h2 => ?_))
    · exact Ev.const (by rw [decide_eq_false (show ¬ 97 ≤ ((bs s)[i]).toNat by omega)]; rfl)
    · exact Ev.const (by rw [decide_eq_false (show ¬ ((bs s)[i]).toNat ≤ 122 by omega), Bool.and_false]; rfl)
    · refine Ev.eq (ih (i + 1) (by omega) (by omega)) ?_
      rw [decide_eq_true (show 97 ≤ ((bs s)[i]).toNat by omega), decide_eq_true (show ((bs s)[i]).toNat ≤ 122 by omega)]; rfl
theorem isName (s : ByteArray) (hs : s.size ≤ 4611686018427387904) : Ev (fun k => impl_isProductName.f k s) (nameB (bs s)) := by
  unfold impl_isProductName.f nameB
  exact name_l0 s hs _ 0 rfl (by omega)
theorem nameS_l0 (s : ByteArray) (hs : s.size ≤ 4611686018427387904) : ∀ (d i : Nat), s.size - i = d → i ≤ s.size →
    Ev (fun k => spec_l26Name.l0 k s (i : Int)) ((((bs s).drop i).all fun b => decide (97 ≤ b.toNat) && decide (b.toNat ≤ 122)) && (decide (1 ≤ ((bs s).length : Int)) && decide (((bs s).length : Int) ≤ 8))) := by
  have hl := bs_size s
  intro d
  induction d with
  | zero =>
    intro i hd hi
    refine Ev.step (fun k => by rw [spec_l26Name.l0]) ?_
    refine Ev.neg (by omega) (Ev.bindc (l1In_f _ _ _) (Ev.const ?_))
    rw [List.drop_of_length_le (by omega), hl]; rfl
  | succ d ih =>
    intro i hd hi
    have hlt : i < (bs s).length := by omega
    have hb := bt_bs s i hlt
    refine Ev.step (fun k => by rw [spec_l26Name.l0]) ?_
    refine Ev.pos (by omega) (Ev.pos (by omega) ?_)
    rw [hb, w64 (by omega) (by omega), show (i : Int) + 1 = ((i + 1 : Nat) : Int) from by omega, drop_cons' _ i hlt, List.all_cons]
    refine Ev.cases (fun h => ?_) (fun h => Ev.cases (fun h2 => ?_) (fun h2 => ?_))
    · exact Ev.const (by rw [decide_eq_false (show ¬ 97 ≤ ((bs s)[i]).toNat by omega)]; rfl)
    · exact Ev.const (by rw [decide_eq_false (show ¬ ((bs s)[i]).toNat ≤ 122 by omega), Bool.and_false]; rfl)
    · refine Ev.eq (ih (i + 1) (by omega) (by omega)) ?_
      rw [decide_eq_true (show 97 ≤ ((bs s)[i]).toNat by omega), decide_eq_true (show ((bs s)[i]).toNat ≤ 122 by omega)]; rfl
theorem nameS (s : ByteArray) (hs : s.size ≤ 4611686018427387904) : Ev (fun k => spec_l26Name.f k s) (nameB (bs s)) := by
  unfold spec_l26Name.f nameB
  exact nameS_l0 s hs _ 0 rfl (by omega)
theorem hourS (h : Int) : spec_l26Hour.f h = some (decide (0 ≤ h) && decide (h ≤ 240)) := by
  unfold spec_l26Hour.f; rw [l1In_f]; rfl

/-! ### one product -/
theorem isProduct (a : ByteArray) (h : Int) (t : ByteArray) (ha : a.size ≤ 4611686018427387904) (ht : t.size ≤ 4611686018427387904) : Ev (fun k => impl_isProduct.f k a h t) (prodB ⟨a, h, t⟩) := by
  unfold impl_isProduct.f prodB
  simp only
  refine Ev.bind (isName a ha) (Ev.cases (fun h1 => ?_) (fun h1 => ?_))
  · rw [h1, Bool.true_and]
    refine Ev.bindc (within_f _ _ _) (Ev.cases (fun h2 => ?_) (fun h2 => ?_))
    · rw [h2, Bool.true_and]
      refine Ev.cases (fun h3 => ?_) (fun h3 => ?_)
      · rw [decide_eq_true h3, Bool.true_and]
        have hp := isPrinted t ⟨#[]⟩ (by omega) rfl (by decide)
        refine Ev.bind hp (Ev.const ?_)
        rw [bs_nil]
        simp
      · rw [decide_eq_false h3]; exact Ev.now _
    · rw [Bool.eq_false_iff.mpr h2]; exact Ev.now _
  · rw [Bool.eq_false_iff.mpr h1]; exact Ev.now _
theorem product_l0 (a : ByteArray) (h : Int) (t : ByteArray) (ha : a.size ≤ 4611686018427387904) (ht : t.size ≤ 4611686018427387904) : ∀ (d i : Nat), t.size - i = d → i ≤ t.size →
    Ev (fun k => spec_l26Product.l0 k (i : Int) a h t) (plainB ((bs t).drop i) && (nameB (bs a) && ((decide (0 ≤ h) && decide (h ≤ 240)) && decide ((t.size : Int) ≤ 60)))) := by
  have hl := bs_size t
  intro d
  induction d with
  | zero =>
    intro i hd hi
    refine Ev.step (fun k => by rw [spec_l26Product.l0]) ?_
    rw [List.drop_of_length_le (by omega), show plainB [] = true from rfl, Bool.true_and]
    refine Ev.neg (by omega) (Ev.bind (nameS a ha) (Ev.cases (fun h1 => ?_) (fun h1 => ?_)))
    · rw [h1, Bool.true_and]
      refine Ev.bindc (hourS h) (Ev.cases (fun h2 => ?_) (fun h2 => ?_))
      · rw [h2, Bool.true_and]; exact Ev.now _
      · rw [Bool.eq_false_iff.mpr h2]; exact Ev.now _
    · rw [Bool.eq_false_iff.mpr h1]; exact Ev.now _
  | succ d ih =>
    intro i hd hi
    have hlt : i < (bs t).length := by omega
    have hb := bt_bs t i hlt
    have hb2 : ((bs t)[i]).toNat < 256 := ((bs t)[i]).toNat_lt
    refine Ev.step (fun k => by rw [spec_l26Product.l0]) ?_
    refine Ev.pos (by omega) (Ev.pos (by omega) ?_)
    rw [hb, w64 (x := (((bs t)[i]).toNat : Int)) (by omega) (by omega), w64 (by omega) (by omega), show (i : Int) + 1 = ((i + 1 : Nat) : Int) from by omega, drop_cons' _ i hlt]
    have e1 : plainB ((bs t)[i] :: (bs t).drop (i + 1)) = ((decide (32 ≤ ((bs t)[i]).toNat) && decide (((bs t)[i]).toNat ≤ 126)) && plainB ((bs t).drop (i + 1))) := List.all_cons
    have e2 : (decide ((32 : Int) ≤ (((bs t)[i]).toNat : Int)) && decide ((((bs t)[i]).toNat : Int) ≤ 126)) = (decide (32 ≤ ((bs t)[i]).toNat) && decide (((bs t)[i]).toNat ≤ 126)) := by
      congr 1 <;> exact decide_eq_decide.mpr (by omega)
    rw [e1]
    refine Ev.bindc (l1In_f _ _ _) ?_
    rw [e2]
    refine Ev.cases (fun h1 => ?_) (fun h1 => ?_)
    · rw [h1, Bool.true_and]; exact ih (i + 1) (by omega) (by omega)
    · rw [Bool.eq_false_iff.mpr h1]; exact Ev.now _
theorem product (a : ByteArray) (h : Int) (t : ByteArray) (ha : a.size ≤ 4611686018427387904) (ht : t.size ≤ 4611686018427387904) : Ev (fun k => spec_l26Product.f k a h t) (prodB ⟨a, h, t⟩) := by
  unfold spec_l26Product.f
  refine Ev.eq (product_l0 a h t ha ht _ 0 rfl (by omega)) ?_
  rw [List.drop_zero]
  unfold prodB
  simp only
  generalize plainB (bs t) = x
  generalize nameB (bs a) = y
  generalize (decide (0 ≤ h) && decide (h ≤ 240)) = z
  generalize decide ((t.size : Int) ≤ 60) = u
  cases x <;> cases y <;> cases z <;> cases u <;> rfl

/-! ### the order -/
def pLt (a b : S26) : Prop := bs a.f0 < bs b.f0 ∨ (bs a.f0 = bs b.f0 ∧ a.f1 < b.f1)
theorem pLt_trans {a b c : S26} (h1 : pLt a b) (h2 : pLt b c) : pLt a c := by
  rcases h1 with h1 | ⟨e1, h1⟩ <;> rcases h2 with h2 | ⟨e2, h2⟩
  · exact .inl (List.lt_trans h1 h2)
  · exact .inl (e2 ▸ h1)
  · exact .inl (e1 ▸ h2)
  · exact .inr ⟨e1.trans e2, by omega⟩
theorem pLt_irrefl (a : S26) : ¬ pLt a a := by
  rintro (h | ⟨_, h⟩)
  · exact List.lt_irrefl _ h
  · omega
theorem before_f (a b : S26) : ∃ r, spec_l26Before.f a.f0 a.f1 a.f2 b.f0 b.f1 b.f2 = some r ∧ (r = true ↔ pLt a b) := by
  unfold spec_l26Before.f pLt
  rw [toList_bs, toList_bs, bytesLess_eq]
  by_cases h1 : bs a.f0 < bs b.f0
  · rw [if_pos (by simpa using h1)]
    exact ⟨true, rfl, by simp [h1]⟩
  · rw [if_neg (by simpa using h1)]
    by_cases h2 : bs a.f0 = bs b.f0
    · rw [if_pos h2]
      exact ⟨_, rfl, by rw [decide_eq_true_eq]; exact ⟨fun h => .inr ⟨h2, h⟩, fun h => h.elim (fun h => absurd h h1) (fun h => h.2)⟩⟩
    · rw [if_neg h2]
      exact ⟨false, rfl, by simp [h1, h2]⟩
theorem cmpB_lt : ∀ (x y : List UInt8), (Lib.compareBytes x y < 0 ↔ x < y) ∧ (Lib.compareBytes x y = 0 ↔ x = y)
  | [], [] => by simp [Lib.compareBytes]
  | [], y :: ys => by simp [Lib.compareBytes]
  | x :: xs, [] => by simp [Lib.compareBytes]
  | x :: xs, y :: ys => by
    have ih := cmpB_lt xs ys
    simp only [Lib.compareBytes, List.cons_lt_cons_iff, List.cons.injEq]
    by_cases h1 : x < y
    · rw [if_pos h1]
      refine ⟨by simp [h1], ?_⟩
      have : x ≠ y := fun e => by subst e; exact UInt8.lt_irrefl _ h1
      simp [this]
    · rw [if_neg h1]
      by_cases h2 : y < x
      · rw [if_pos h2]
        have : x ≠ y := fun e => by subst e; exact UInt8.lt_irrefl _ h2
        simp [this, h1]
      · rw [if_neg h2]
        have e : x = y := UInt8.le_antisymm (UInt8.not_lt.1 h2) (UInt8.not_lt.1 h1)
        subst e
        rw [ih.1, ih.2]
        simp [UInt8.lt_irrefl]
theorem compare_intP (x y : Int) : cmp_Compare_int.f x y = some (if x < y then -1 else if y < x then 1 else 0) := by
  unfold cmp_Compare_int.f cmp_isNaN_int.f
  simp
  split <;> (try rfl) <;> split <;> rfl
theorem or_intP (a b : Int) (k : Nat) (hk : 3 ≤ k) : cmp_Or_int.f k [a, b] = some (if a ≠ 0 then a else b) := by
  have h3 : cmp_Or_int.f 3 [a, b] = some (if a ≠ 0 then a else b) := by
    unfold cmp_Or_int.f
    by_cases ha : a = 0
    · subst ha
      by_cases hb : b = 0
      · subst hb; simp [cmp_Or_int.l0, rd, wrap64]
      · simp [cmp_Or_int.l0, rd, wrap64, hb]
    · simp [cmp_Or_int.l0, rd, wrap64, ha]
  obtain ⟨d, rfl⟩ : ∃ d, k = 3 + d := ⟨k - 3, by omega⟩
  clear hk
  induction d with
  | zero => exact h3
  | succ d ih => exact cmp_Or_int.mono _ _ _ ih
def cmpP (a b : S26) : Int := if Lib.compareBytes (bs a.f0) (bs b.f0) ≠ 0 then Lib.compareBytes (bs a.f0) (bs b.f0) else if a.f1 < b.f1 then -1 else if b.f1 < a.f1 then 1 else 0
theorem compareP (a b : S26) : Ev (fun k => impl_compareProducts.f k a.f0 a.f1 a.f2 b.f0 b.f1 b.f2) (cmpP a b) := by
  unfold impl_compareProducts.f cmpP
  refine Ev.bindc (b := Lib.compareBytes (bs a.f0) (bs b.f0)) rfl (Ev.bindc (compare_intP _ _) ?_)
  exact Ev.bind (⟨3, fun k hk => or_intP _ _ k hk⟩) (Ev.now _)
theorem cmpP_lt (a b : S26) : cmpP a b < 0 ↔ pLt a b := by
  have h := cmpB_lt (bs a.f0) (bs b.f0)
  unfold cmpP pLt
  by_cases h0 : Lib.compareBytes (bs a.f0) (bs b.f0) = 0
  · rw [if_neg (by simpa using h0)]
    have e := h.2.1 h0
    have hn : ¬ bs a.f0 < bs b.f0 := by rw [e]; exact List.lt_irrefl _
    simp only [hn, e, false_or, true_and]
    split
    · simp; omega
    · split
      · simp; omega
      · simp; omega
  · rw [if_pos h0, h.1]
    have hn : ¬ bs a.f0 = bs b.f0 := fun e => h0 (h.2.2 e)
    simp [hn]

/-! ### archives -/
def Arch1 (l : List S26) : Prop := (∀ d ∈ l, prodB d = true) ∧ l.Pairwise pLt
def Arch (l : List S26) : Prop := Arch1 l ∧ l.length ≤ 20
open Classical in
noncomputable def archB (l : List S26) : Bool := decide (Arch l)
theorem archB_true {l : List S26} : archB l = true ↔ Arch l := by unfold archB; simp
theorem archB_not {l : List S26} (h : ¬ Arch l) : archB l = false := by
  cases e : archB l with
  | false => rfl
  | true => exact absurd (archB_true.1 e) h
/-- No text is too long to be handled. -/
def Sized (l : List S26) : Prop := l.length ≤ 1048577 ∧ ∀ z ∈ l, z.f0.size ≤ 1048576 ∧ z.f2.size ≤ 1048576
theorem arch_step {l : List S26} {i : Nat} (hi : i < l.length) (h : Arch1 (l.take i)) (ho : prodB l[i] = true) (h0 : ∀ (hp : 0 < i), pLt (l[i - 1]'(by omega)) l[i]) : Arch1 (l.take (i + 1)) := by
  rw [take_succ' _ _ hi]
  refine ⟨fun d hd => ?_, List.pairwise_append.2 ⟨h.2, List.pairwise_singleton _ _, fun a ha b hb => ?_⟩⟩
  · rcases List.mem_append.1 hd with hd | hd
    · exact h.1 d hd
    · rw [List.mem_singleton.1 hd]; exact ho
  · rw [List.mem_singleton.1 hb]
    obtain ⟨j, hj, rfl⟩ := List.getElem_of_mem ha
    have hj' : j < i := by simp at hj; omega
    have hlast := h0 (by omega)
    by_cases e : j = i - 1
    · subst e; simpa using hlast
    · have h1 := List.pairwise_iff_getElem.1 h.2 j (i - 1) hj (by simp; omega) (by omega)
      exact pLt_trans h1 (by simpa using hlast)
theorem arch_order {l : List S26} (h : Arch l) {i : Nat} (hi : i < l.length) (hp : 0 < i) : pLt (l[i - 1]'(by omega)) l[i] := List.pairwise_iff_getElem.1 h.1.2 (i - 1) i (by omega) hi (by omega)
theorem arch_l0 (l : List S26) (hs : Sized l) : ∀ (d i : Nat), l.length - i = d → i ≤ l.length → Arch1 (l.take i) →
    Ev (fun k => impl_IsValidArchive.l0 k l l (l.length : Int) (i : Int)) (archB l) := by
  have hl := hs.1
  intro d
  induction d with
  | zero =>
    intro i hd hi hR
    obtain rfl : i = l.length := by omega
    rw [List.take_length] at hR
    refine Ev.step (fun k => by rw [impl_IsValidArchive.l0]) ?_
    refine Ev.neg (by omega) (Ev.const ?_)
    congr 1
    rw [Bool.eq_iff_iff, archB_true, decide_eq_true_eq]
    exact ⟨fun h => ⟨hR, by omega⟩, fun h => by have := h.2; omega⟩
  | succ d ih =>
    intro i hd hi hR
    have hlt : i < l.length := by omega
    have hsz := hs.2 l[i] (List.getElem_mem _)
    refine Ev.step (fun k => by rw [impl_IsValidArchive.l0]) ?_
    refine Ev.pos (by omega) (Ev.pos (by omega) (Ev.pos (by omega) ?_))
    rw [rdP_lt l i hlt, w64 (x := (i : Int) + 1) (by omega) (by omega), show (i : Int) + 1 = ((i + 1 : Nat) : Int) from by omega]
    refine Ev.bind (isProduct _ _ _ (by omega) (by omega)) (Ev.cases (fun h1 => ?_) (fun h1 => Ev.const ?_))
    · refine Ev.cases (fun hp => ?_) (fun hp => ih (i + 1) (by omega) (by omega) (arch_step hlt hR h1 (fun h => by omega)))
      have hpi : 0 < i := by omega
      have ew : wrap64 ((i : Int) - 1) = ((i - 1 : Nat) : Int) := by rw [w64 (by omega) (by omega)]; omega
      rw [ew, rdP_lt l (i - 1) (by omega)]
      refine Ev.pos (by omega) (Ev.pos (by omega) (Ev.bind (compareP _ _) (Ev.cases (fun h2 => Ev.const ?_) (fun h2 => ?_))))
      · rw [archB_not (fun hA => by have := (cmpP_lt _ _).2 (arch_order hA hlt hpi); omega)]
      · exact ih (i + 1) (by omega) (by omega) (arch_step hlt hR h1 (fun h => (cmpP_lt _ _).1 (by omega)))
    · rw [archB_not (fun hA => h1 (hA.1.1 _ (List.getElem_mem _)))]
theorem isArchive (l : List S26) (hs : Sized l) : Ev (fun k => impl_IsValidArchive.f k l) (archB l) := by
  unfold impl_IsValidArchive.f
  exact arch_l0 l hs _ 0 rfl (by omega) ⟨by simp, by simp⟩
theorem archS_l0 (l : List S26) (hs : Sized l) : ∀ (d i : Nat), l.length - i = d → i ≤ l.length → Arch1 (l.take i) →
    Ev (fun k => spec_l26Good.l0 k l (i : Int)) (archB l) := by
  have hl := hs.1
  intro d
  induction d with
  | zero =>
    intro i hd hi hR
    obtain rfl : i = l.length := by omega
    rw [List.take_length] at hR
    refine Ev.step (fun k => by rw [spec_l26Good.l0]) ?_
    refine Ev.neg (by omega) (Ev.const ?_)
    congr 1
    rw [Bool.eq_iff_iff, archB_true, decide_eq_true_eq]
    exact ⟨fun h => ⟨hR, by omega⟩, fun h => by have := h.2; omega⟩
  | succ d ih =>
    intro i hd hi hR
    have hlt : i < l.length := by omega
    have hsz := hs.2 l[i] (List.getElem_mem _)
    refine Ev.step (fun k => by rw [spec_l26Good.l0]) ?_
    refine Ev.pos (by omega) (Ev.pos (by omega) ?_)
    rw [rdP_lt l i hlt, w64 (x := (i : Int) + 1) (by omega) (by omega), show (i : Int) + 1 = ((i + 1 : Nat) : Int) from by omega]
    refine Ev.bind (product _ _ _ (by omega) (by omega)) (Ev.cases (fun h1 => ?_) (fun h1 => Ev.const ?_))
    · refine Ev.cases (fun hp => ?_) (fun hp => ih (i + 1) (by omega) (by omega) (arch_step hlt hR h1 (fun h => by omega)))
      have hpi : 0 < i := by omega
      have ew : wrap64 ((i : Int) - 1) = ((i - 1 : Nat) : Int) := by rw [w64 (by omega) (by omega)]; omega
      rw [ew, rdP_lt l (i - 1) (by omega)]
      obtain ⟨r, hr, hiff⟩ := before_f (l[i - 1]'(by omega)) l[i]
      refine Ev.pos (by omega) (Ev.pos (by omega) (Ev.bindc hr (Ev.cases (fun h2 => ?_) (fun h2 => Ev.const ?_))))
      · exact ih (i + 1) (by omega) (by omega) (arch_step hlt hR h1 (fun h => hiff.1 h2))
      · rw [archB_not (fun hA => h2 (hiff.2 (arch_order hA hlt hpi)))]
    · rw [archB_not (fun hA => h1 (hA.1.1 _ (List.getElem_mem _)))]
theorem goodArchive (l : List S26) (hs : Sized l) : Ev (fun k => spec_l26Good.f k l) (archB l) := by
  unfold spec_l26Good.f
  exact archS_l0 l hs _ 0 rfl (by omega) ⟨by simp, by simp⟩
end Go.Proofs.YtgmmanppmjlclaaGreatDoor.Pure

/- What the reference's StoreProduct answers. -/
namespace Go.Proofs.YtgmmanppmjlclaaGreatDoor.Pure
open Go.RowKit Go.Proofs.YtgmmanppmjlclaaGreatDoor.P Go.Proofs.YtgmmanppmjlclaaGreatDoorW.PrintWords Go.Proofs.YtgmmanppmjlclaaGreatDoorW.PrintLast
set_option linter.unusedVariables false

open Classical in
/-- A product put into its place. -/
noncomputable def stoL (p : S26) : List S26 → List S26
  | [] => [p]
  | x :: xs => if pLt x p then x :: stoL p xs else if pLt p x then p :: x :: xs else p :: xs
theorem stoL_len (p : S26) : ∀ l : List S26, (stoL p l).length ≤ l.length + 1
  | [] => by simp [stoL]
  | x :: xs => by
    have := stoL_len p xs
    simp only [stoL]
    split
    · simp; omega
    · split <;> simp
theorem stoL_mem (p : S26) : ∀ l : List S26, ∀ z ∈ stoL p l, z = p ∨ z ∈ l
  | [], z, h => by simp [stoL] at h; exact .inl h
  | x :: xs, z, h => by
    simp only [stoL] at h
    split at h
    · rcases List.mem_cons.1 h with rfl | h
      · exact .inr (by simp)
      · rcases stoL_mem p xs z h with h | h
        · exact .inl h
        · exact .inr (by simp [h])
    · split at h
      · rcases List.mem_cons.1 h with rfl | h
        · exact .inl rfl
        · exact .inr h
      · rcases List.mem_cons.1 h with rfl | h
        · exact .inl rfl
        · exact .inr (by simp [h])
theorem stoL_sized {l : List S26} (p : S26) (hs : Sized l) (hl : l.length ≤ 1048576) (hp : p.f0.size ≤ 1048576 ∧ p.f2.size ≤ 1048576) : Sized (stoL p l) := by
  refine ⟨by have := stoL_len p l; omega, fun z hz => ?_⟩
  rcases stoL_mem p l z hz with rfl | hz
  · exact hp
  · exact hs.2 z hz
noncomputable def goodR (y : List S26) : List S26 × Bool := if archB y = true then (y, true) else ([], false)
theorem store_j2 (l : List S26) (hl : l.length ≤ 20) (i : Nat) (y : List S26) (hy : y.length ≤ 21) (b : Bool) (hi : i ≤ l.length) (hb : b = true → i < l.length) (hs : Sized (y ++ l.drop (if b = true then i + 1 else i))) :
    Ev (fun k => spec_StoreProduct.j2 k l (i : Int) y b) (goodR (y ++ l.drop (if b = true then i + 1 else i))) := by
  have hgood : ∀ z, Sized z → Ev (fun k => (spec_l26Good.f k z).bind fun t => if t = true then some (z, true) else some ([], false)) (goodR z) := fun z hz => by
    refine Ev.bind (goodArchive z hz) (Ev.cases (fun h => Ev.const ?_) (fun h => Ev.const ?_))
    · unfold goodR; rw [if_pos h]
    · unfold goodR; rw [if_neg h]
  refine Ev.step (fun k => by rw [spec_StoreProduct.j2]) ?_
  cases b with
  | true =>
    have hi2 := hb rfl
    rw [if_pos rfl] at hs
    rw [w64 (x := (i : Int) + 1) (by omega) (by omega), show (i : Int) + 1 = ((i + 1 : Nat) : Int) from by omega, Int.toNat_natCast]
    refine Ev.pos rfl (Ev.pos (by omega) (Ev.pos (by omega) (Ev.bindc rfl (Ev.pos ?_ (Ev.bindc rfl ?_)))))
    · simp; omega
    · rw [if_pos rfl]; exact hgood _ hs
  | false =>
    rw [if_neg (by decide)] at hs
    rw [Int.toNat_natCast]
    refine Ev.neg (by decide) (Ev.pos (by omega) (Ev.pos (by omega) (Ev.bindc rfl (Ev.pos ?_ (Ev.bindc rfl ?_)))))
    · simp; omega
    · rw [if_neg (by decide)]; exact hgood _ hs
theorem store_j1 (l : List S26) (hl : l.length ≤ 20) (hz : Sized l) (p : S26) (hp : p.f0.size ≤ 1048576 ∧ p.f2.size ≤ 1048576) (i : Nat) (hi : i ≤ l.length) (hn : ∀ h : i < l.length, ¬ pLt l[i] p) :
    Ev (fun k => spec_StoreProduct.j1 k l (i : Int) p.f0 p.f1 p.f2) (goodR (l.take i ++ stoL p (l.drop i))) := by
  have hsz : ∀ n, Sized ((l.take i ++ [p]) ++ l.drop n) := fun n => by
    refine ⟨by simp; omega, fun z h => ?_⟩
    rcases List.mem_append.1 h with h | h
    · rcases List.mem_append.1 h with h | h
      · exact hz.2 z (List.mem_of_mem_take h)
      · rw [List.mem_singleton.1 h]; exact hp
    · exact hz.2 z (List.mem_of_mem_drop h)
  have hlen : (l.take i ++ [p]).length ≤ 21 := by simp; omega
  refine Ev.step (fun k => by rw [spec_StoreProduct.j1]) ?_
  rw [Int.toNat_natCast]
  refine Ev.bindc rfl (Ev.pos (by omega) (Ev.pos (by omega) (Ev.bindc rfl (Ev.pos (by simp; omega) (Ev.bindc rfl (Ev.bindc rfl (Ev.pos (by simp; omega) (Ev.bindc rfl ?_))))))))
  rw [List.nil_append]
  by_cases hlt : i < l.length
  · obtain ⟨r, hr, hiff⟩ := before_f p l[i]
    rw [rdP_lt l i hlt, drop_cons' l i hlt]
    refine Ev.pos (by omega) (Ev.bindc hr ?_)
    have h1 := hn hlt
    cases r with
    | true =>
      have h2 := hiff.1 rfl
      refine Ev.eq (store_j2 l hl i _ hlen false hi (by simp) (hsz _)) ?_
      simp only [stoL]
      rw [if_neg h1, if_pos h2, if_neg (by decide), drop_cons' l i hlt, List.append_assoc]; rfl
    | false =>
      have h2 : ¬ pLt p l[i] := fun h => by have := hiff.2 h; cases this
      refine Ev.eq (store_j2 l hl i _ hlen true hi (fun _ => hlt) (hsz _)) ?_
      simp only [stoL]
      rw [if_neg h1, if_neg h2, if_pos trivial, List.append_assoc]; rfl
  · refine Ev.neg (by omega) (Ev.eq (store_j2 l hl i _ hlen false hi (by simp) (hsz _)) ?_)
    rw [if_neg (by decide), List.drop_of_length_le (by omega)]
    simp [stoL]
theorem store_l0 (l : List S26) (hl : l.length ≤ 20) (hz : Sized l) (p : S26) (hp : p.f0.size ≤ 1048576 ∧ p.f2.size ≤ 1048576) : ∀ (d i : Nat), l.length - i = d → i ≤ l.length →
    Ev (fun k => spec_StoreProduct.l0 k l (i : Int) p.f0 p.f1 p.f2) (goodR (l.take i ++ stoL p (l.drop i))) := by
  intro d
  induction d with
  | zero =>
    intro i hd hi
    refine Ev.step (fun k => by rw [spec_StoreProduct.l0]) ?_
    exact Ev.neg (by omega) (store_j1 l hl hz p hp i hi (fun h => by omega))
  | succ d ih =>
    intro i hd hi
    have hlt : i < l.length := by omega
    obtain ⟨r, hr, hiff⟩ := before_f l[i] p
    refine Ev.step (fun k => by rw [spec_StoreProduct.l0]) ?_
    rw [rdP_lt l i hlt, w64 (x := (i : Int) + 1) (by omega) (by omega), show (i : Int) + 1 = ((i + 1 : Nat) : Int) from by omega]
    refine Ev.pos (by omega) (Ev.pos (by omega) (Ev.bindc hr ?_))
    cases r with
    | true =>
      have h2 := hiff.1 rfl
      refine Ev.pos rfl (Ev.eq (ih (i + 1) (by omega) (by omega)) ?_)
      rw [drop_cons' l i hlt, take_succ' l i hlt]
      simp only [stoL]
      rw [if_pos h2, List.append_assoc]; rfl
    | false =>
      exact Ev.neg (by decide) (store_j1 l hl hz p hp i hi (fun _ h => by have := hiff.2 h; cases this))
noncomputable def storeT (l : List S26) (p : S26) : List S26 × Bool := if archB l = true then goodR (stoL p l) else ([], false)
theorem store_spec (l : List S26) (hz : Sized l) (p : S26) (hp : p.f0.size ≤ 1048576 ∧ p.f2.size ≤ 1048576) : Ev (fun k => spec_StoreProduct.f k l p.f0 p.f1 p.f2) (storeT l p) := by
  unfold spec_StoreProduct.f storeT
  refine Ev.bind (goodArchive l hz) (Ev.cases (fun h => ?_) (fun h => Ev.const ?_))
  · rw [if_pos h]
    have := store_l0 l (archB_true.1 h).2 hz p hp _ 0 rfl (by omega)
    simpa using this
  · rw [if_neg h]
theorem storeT_arch {l : List S26} {p : S26} (h : (storeT l p).2 = true) : Arch (storeT l p).1 := by
  unfold storeT goodR at h ⊢
  by_cases h1 : archB l = true
  · rw [if_pos h1] at h ⊢
    by_cases h2 : archB (stoL p l) = true
    · rw [if_pos h2] at h ⊢; exact archB_true.1 h2
    · rw [if_neg h2] at h; cases h
  · rw [if_neg h1] at h; cases h
end Go.Proofs.YtgmmanppmjlclaaGreatDoor.Pure

/- The reader of choices: one of some numbers. -/
namespace Go.Proofs.YtgmmanppmjlclaaGreatDoor.Pure
open Go.RowKit Go.Proofs.YtgmmanppmjlclaaGreatDoor.P Go.Proofs.YtgmmanppmjlclaaGreatDoorW.PrintWords Go.Proofs.YtgmmanppmjlclaaGreatDoorW.PrintLast

theorem among_ok {l : List Int} (hc : Code l) {a s : Int} {n : Nat} (h : At a n) (hn : n + 2 ≤ 1000000000) (xs : List Int) (hx : xs ≠ []) (hm : xs.length ≤ 1000000) : ∃ b a' s', spec_l1Cur_among.f l a s xs = some (b, a', s') ∧ b ∈ xs ∧ At a' (n + 2) := by
  unfold spec_l1Cur_among.f
  obtain ⟨b, a', s', e, h0, h1, h'⟩ := pick_ok hc (s := s) h hn (xs.length : Int) (by omega)
  have hp := List.length_pos_iff.2 hx
  rw [e]
  simp only [Option.bind_some]
  obtain ⟨j, rfl⟩ : ∃ j : Nat, b = j := ⟨b.toNat, by omega⟩
  rw [if_pos h0, if_pos (by omega), rd_lt xs j (by omega)]
  exact ⟨_, _, _, rfl, List.getElem_mem (by omega), h'⟩
end Go.Proofs.YtgmmanppmjlclaaGreatDoor.Pure

/- One of some texts. -/
namespace Go.Proofs.YtgmmanppmjlclaaGreatDoor.Pure
open Go.RowKit Go.Proofs.YtgmmanppmjlclaaGreatDoor.P Go.Proofs.YtgmmanppmjlclaaGreatDoorW.PrintWords Go.Proofs.YtgmmanppmjlclaaGreatDoorW.PrintLast

theorem of_ok {l : List Int} (hc : Code l) {a s : Int} {n : Nat} (h : At a n) (hn : n + 2 ≤ 1000000000) (xs : List ByteArray) (hx : xs ≠ []) (hm : xs.length ≤ 1000000) : ∃ b a' s', spec_l1Cur_of.f l a s xs = some (b, a', s') ∧ b ∈ xs ∧ At a' (n + 2) := by
  unfold spec_l1Cur_of.f
  obtain ⟨b, a', s', e, h0, h1, h'⟩ := pick_ok hc (s := s) h hn (xs.length : Int) (by omega)
  have hp := List.length_pos_iff.2 hx
  rw [e]
  simp only [Option.bind_some]
  obtain ⟨j, rfl⟩ : ∃ j : Nat, b = j := ⟨b.toNat, by omega⟩
  have hj : j < xs.length := by omega
  rw [if_pos h0, if_pos (by omega)]
  refine ⟨_, _, _, rfl, ?_, h'⟩
  have : rdOf ByteArray.empty xs (j : Int) = xs[j] := by
    unfold rdOf
    rw [Int.toNat_natCast, List.getD_eq_getElem?_getD, List.getElem?_eq_getElem hj]; rfl
  rw [this]; exact List.getElem_mem hj
end Go.Proofs.YtgmmanppmjlclaaGreatDoor.Pure

/- One of the first of some numbers. -/
namespace Go.Proofs.YtgmmanppmjlclaaGreatDoor.Pure
open Go.RowKit Go.Proofs.YtgmmanppmjlclaaGreatDoor.P Go.Proofs.YtgmmanppmjlclaaGreatDoorW.PrintWords Go.Proofs.YtgmmanppmjlclaaGreatDoorW.PrintLast

/-- One of the first of some numbers, how many of them being drawn as well. -/
theorem cut_ok {l : List Int} (hc : Code l) {a s : Int} {n : Nat} (h : At a n) (hn : n + 4 ≤ 1000000000) (xs : List Int) (p m : Int) (hp : 1 ≤ p) (hp2 : p ≤ 100) (hm : 1 ≤ m) (hx : m + (p - 1) / 11 ≤ xs.length) (hl : xs.length ≤ 100) :
    ∃ c a1 s1 b a' s', spec_l1Cur_pick.f l a s p = some (c, a1, s1) ∧ 0 ≤ wrap64 (m + wrap64 (Int.tdiv c 11)) ∧ wrap64 (m + wrap64 (Int.tdiv c 11)) ≤ (xs.length : Int) ∧ spec_l1Cur_among.f l a1 s1 (xs.take (wrap64 (m + wrap64 (Int.tdiv c 11))).toNat) = some (b, a', s') ∧ At a' (n + 4) := by
  obtain ⟨c, a1, s1, e1, h0, h1, h2⟩ := pick_ok hc (s := s) h (by omega) p (by omega)
  have ht : Int.tdiv c 11 = c / 11 := Int.tdiv_eq_ediv_of_nonneg h0
  have h3 : c / 11 ≤ (p - 1) / 11 := Int.ediv_le_ediv (by omega) (by omega)
  have h4 : 0 ≤ c / 11 := by omega
  have hw : wrap64 (m + wrap64 (Int.tdiv c 11)) = m + c / 11 := by rw [ht, w64 (x := c / 11) (by omega) (by omega), w64 (by omega) (by omega)]
  have hne : xs.take (m + c / 11).toNat ≠ [] := by
    intro he
    have := congrArg List.length he
    rw [List.length_take, List.length_nil] at this
    omega
  obtain ⟨b, a', s', e2, _, h5⟩ := among_ok hc (s := s1) h2 (by omega) (xs.take (m + c / 11).toNat) hne (by simp; omega)
  refine ⟨c, a1, s1, b, a', s', e1, ?_, ?_, ?_, h5.le (by omega) (by omega)⟩
  · rw [hw]; omega
  · rw [hw]; omega
  · rw [hw]; exact e2
end Go.Proofs.YtgmmanppmjlclaaGreatDoor.Pure

/- The drawn archives, names and hours. -/
namespace Go.Proofs.YtgmmanppmjlclaaGreatDoor.Pure
open Go.RowKit Go.Proofs.YtgmmanppmjlclaaGreatDoor.P Go.Proofs.YtgmmanppmjlclaaGreatDoorW.PrintWords Go.Proofs.YtgmmanppmjlclaaGreatDoorW.PrintLast
set_option linter.unusedVariables false

theorem name26_ok {l : List Int} (hc : Code l) {a s : Int} {n : Nat} (h : At a n) (hn : n + 4 ≤ 1000000000) : ∃ b a' s', spec_l1Cur_name26.f l a s = some (b, a', s') ∧ b.size ≤ 1000 ∧ At a' (n + 4) := by
  unfold spec_l1Cur_name26.f
  obtain ⟨w, p1, s1, e1, h1⟩ := one_ok hc (s := s) h (by omega) 16 (by omega)
  rw [e1]
  simp only [Option.bind_some]
  by_cases hw : w = true
  · rw [if_pos hw]
    generalize hL : ([(⟨#[]⟩ : ByteArray), (⟨#[82, 97, 105, 110]⟩ : ByteArray), (⟨#[110, 105, 110, 101, 99, 104, 97, 114, 115]⟩ : ByteArray), (⟨#[97, 98, 99, 100, 101, 102, 103, 104]⟩ : ByteArray)] : List ByteArray) = L
    obtain ⟨b, p2, s2, e2, m2, h2⟩ := of_ok hc (s := s1) h1 (by omega) L (by rw [← hL]; simp) (by rw [← hL]; simp)
    have g : ∀ b ∈ L, b.size ≤ 1000 := by rw [← hL]; decide
    rw [e2]
    exact ⟨_, _, _, rfl, g _ m2, h2.le (by omega) hn⟩
  · rw [if_neg hw]
    generalize hL : ([(⟨#[97]⟩ : ByteArray), (⟨#[114, 97, 105, 110]⟩ : ByteArray), (⟨#[115, 110, 111, 119]⟩ : ByteArray), (⟨#[119, 105, 110, 100]⟩ : ByteArray), (⟨#[119, 105, 110, 100, 121]⟩ : ByteArray)] : List ByteArray) = L
    obtain ⟨b, p2, s2, e2, m2, h2⟩ := of_ok hc (s := s1) h1 (by omega) L (by rw [← hL]; simp) (by rw [← hL]; simp)
    have g : ∀ b ∈ L, b.size ≤ 1000 := by rw [← hL]; decide
    rw [e2]
    exact ⟨_, _, _, rfl, g _ m2, h2.le (by omega) hn⟩
theorem hour26_ok {l : List Int} (hc : Code l) {a s : Int} {n : Nat} (h : At a n) (hn : n + 4 ≤ 1000000000) : ∃ b a' s', spec_l1Cur_hour26.f l a s = some (b, a', s') ∧ At a' (n + 4) := by
  obtain ⟨c, a1, s1, b, a', s', e1, h1, h2, e2, h3⟩ := cut_ok hc (s := s) h hn [0, 1, 6, 12, 24, 100, 240, (-1), 241] 24 7 (by omega) (by omega) (by omega) (by simp) (by simp)
  refine ⟨b, a', s', ?_, h3⟩
  unfold spec_l1Cur_hour26.f
  simp only [Option.bind_some]
  rw [e1]
  simp only [Option.bind_some]
  rw [if_pos h1, if_pos h2, e2]
  rfl
theorem product_ok {l : List Int} (hc : Code l) {a s : Int} {n : Nat} (h : At a n) (hn : n + 10 ≤ 1000000000) : ∃ b c d a' s', spec_l1Cur_product.f l a s = some (b, c, d, a', s') ∧ b.size ≤ 1000 ∧ d.size ≤ 1000 ∧ At a' (n + 10) := by
  unfold spec_l1Cur_product.f
  obtain ⟨b, a1, s1, e1, g1, h1⟩ := name26_ok hc (s := s) h (by omega)
  obtain ⟨c, a2, s2, e2, h2⟩ := hour26_ok hc (s := s1) h1 (by omega)
  rw [e1]; simp only [Option.bind_some]
  rw [e2]; simp only [Option.bind_some]
  generalize hL : ([(⟨#[]⟩ : ByteArray), (⟨#[110, 111, 32, 114, 97, 105, 110]⟩ : ByteArray), (⟨#[109, 117, 99, 104]⟩ : ByteArray), (⟨#[97, 32, 98, 32, 99]⟩ : ByteArray), (⟨#[32, 32]⟩ : ByteArray), (⟨#[118, 101, 114, 121, 32, 109, 117, 99, 104]⟩ : ByteArray)] : List ByteArray) = L
  obtain ⟨d, a3, s3, e3, m3, h3⟩ := of_ok hc (s := s2) h2 (by omega) L (by rw [← hL]; simp) (by rw [← hL]; simp)
  have g : ∀ b ∈ L, b.size ≤ 1000 := by rw [← hL]; decide
  rw [e3]
  exact ⟨_, _, _, _, _, rfl, g1, g _ m3, h3.le (by omega) hn⟩
/-- What the laws draw is small. -/
def Small (l : List S26) : Prop := l.length ≤ 21 ∧ ∀ z ∈ l, z.f0.size ≤ 1000 ∧ z.f2.size ≤ 1000
theorem Small.sized {l : List S26} (h : Small l) : Sized l := ⟨by have := h.1; omega, fun z hz => by have := h.2 z hz; omega⟩
theorem arch_small {l : List S26} (h : Arch l) : Small l := by
  refine ⟨by have := h.2; omega, fun z hz => ?_⟩
  have h1 := h.1.1 z hz
  unfold prodB nameB at h1
  simp only [Bool.and_eq_true, decide_eq_true_eq] at h1
  have h2 := bs_size z.f0
  omega
theorem Small.set {l : List S26} (h : Small l) (i : Nat) (z : S26) (hz : z.f0.size ≤ 1000 ∧ z.f2.size ≤ 1000) : Small (l.set i z) := by
  refine ⟨by rw [List.length_set]; exact h.1, fun x hx => ?_⟩
  rcases List.mem_or_eq_of_mem_set hx with hx | rfl
  · exact h.2 x hx
  · exact hz
theorem small_at {l : List S26} (h : Small l) (b : Int) (h0 : 0 ≤ b) (h1 : b < l.length) : (rd_T26 l b).f0.size ≤ 1000 ∧ (rd_T26 l b).f2.size ≤ 1000 := by
  obtain ⟨j, rfl⟩ : ∃ j : Nat, b = j := ⟨b.toNat, by omega⟩
  rw [rdP_lt l j (by omega)]
  exact h.2 _ (List.getElem_mem _)
theorem archive_l1 {l : List Int} (hc : Code l) (x7 : Int) (p : ByteArray) (q : Int) (t : ByteArray) (h7 : 0 ≤ x7) (hp : p.size ≤ 1000 ∧ t.size ≤ 1000) : ∀ (d : Nat) (x : List S26) (x9 a s : Int) (n : Nat), 21 - x.length = d → At a n → Small x → x7 < x.length → n ≤ 900000000 + 2 * x.length →
    ∃ r a' s', Ev (fun k => spec_l1Cur_archive.l1 k x x7 x9 l a s p q t) (r, a', s') ∧ Small r ∧ At a' (n + 2 * (d + 1)) := by
  intro d
  induction d with
  | zero =>
    intro x x9 a s n hd h hx hx7 hn
    obtain ⟨b, a', s', e, hb0, hb1, h'⟩ := pick_ok hc (s := s) h (by have := hx.1; omega) 2 (by omega)
    refine ⟨x.set x7.toNat ⟨p, q, t⟩, a', s', ?_, hx.set _ _ hp, h'⟩
    refine Ev.step (fun k => by rw [spec_l1Cur_archive.l1]) ?_
    refine Ev.bindc e (Ev.neg ?_ (Ev.pos h7 (Ev.pos hx7 (Ev.now _))))
    simp only
    rw [w64 (by omega) (by omega)]; omega
  | succ d ih =>
    intro x x9 a s n hd h hx hx7 hn
    have hx1 := hx.1
    obtain ⟨b, a', s', e, hb0, hb1, h'⟩ := pick_ok hc (s := s) h (by omega) 2 (by omega)
    by_cases c : (x.length : Int) < wrap64 (20 + b)
    · have hx2 : Small (x ++ [⟨⟨#[122, 122]⟩, x9, ⟨#[]⟩⟩]) := by
        refine ⟨by simp; omega, fun z hz => ?_⟩
        rcases List.mem_append.1 hz with hz | hz
        · exact hx.2 z hz
        · rw [List.mem_singleton.1 hz]
          exact ⟨by show (2 : Nat) ≤ 1000; omega, by show (0 : Nat) ≤ 1000; omega⟩
      obtain ⟨r, a2, s2, e2, hr, h3⟩ := ih (x ++ [⟨⟨#[122, 122]⟩, x9, ⟨#[]⟩⟩]) (wrap64 (x9 + 1)) a' s' (n + 2) (by simp; omega) h' hx2 (by simp; omega) (by simp; omega)
      refine ⟨r, a2, s2, ?_, hr, h3.le (by omega) (by omega)⟩
      refine Ev.step (fun k => by rw [spec_l1Cur_archive.l1]) ?_
      exact Ev.bindc e (Ev.pos c (Ev.pos (by omega) e2))
    · refine ⟨x.set x7.toNat ⟨p, q, t⟩, a', s', ?_, hx.set _ _ hp, h'.le (by omega) (by omega)⟩
      refine Ev.step (fun k => by rw [spec_l1Cur_archive.l1]) ?_
      exact Ev.bindc e (Ev.neg c (Ev.pos h7 (Ev.pos hx7 (Ev.now _))))
theorem archive_l0 {l : List Int} (hc : Code l) : ∀ (d : Nat) (x : List S26) (a s : Int) (n : Nat), Arch x → At a n → n + 10 * d ≤ 800000000 →
    ∃ r a' s', Ev (fun k => spec_l1Cur_archive.l0 k x (d : Int) l a s) (r, a', s') ∧ Small r ∧ At a' (n + 10 * d + 60) := by
  intro d
  induction d with
  | zero =>
    intro x a s n hA h hn
    have hx := arch_small hA
    have hx1 := hx.1
    by_cases c : (x.length : Int) = 0
    · refine ⟨x, a, s, ?_, hx, h.le (by omega) (by omega)⟩
      refine Ev.step (fun k => by rw [spec_l1Cur_archive.l0]) ?_
      exact Ev.neg (by omega) (Ev.pos c (Ev.now _))
    · obtain ⟨b, a1, s1, e1, hb0, hb1, h1⟩ := pick_ok hc (s := s) h (by omega) (x.length : Int) (by omega)
      obtain ⟨b2, a2, s2, e2, hc0, hc1, h2⟩ := pick_ok hc (s := s1) h1 (by omega) 40 (by omega)
      have hsm := small_at hx b hb0 (by omega)
      by_cases c0 : b2 = 0
      · generalize hL : ([(⟨#[]⟩ : ByteArray), (⟨#[90]⟩ : ByteArray), (⟨#[122, 122]⟩ : ByteArray)] : List ByteArray) = L
        obtain ⟨b3, a3, s3, e3, m3, h3⟩ := of_ok hc (s := s2) h2 (by omega) L (by rw [← hL]; simp) (by rw [← hL]; simp)
        have g : ∀ b ∈ L, b.size ≤ 1000 := by rw [← hL]; decide
        subst hL
        refine ⟨x.set b.toNat ⟨b3, (rd_T26 x b).f1, (rd_T26 x b).f2⟩, a3, s3, ?_, hx.set _ _ ⟨g _ m3, hsm.2⟩, h3.le (by omega) (by omega)⟩
        refine Ev.step (fun k => by rw [spec_l1Cur_archive.l0]) ?_
        exact Ev.neg (by omega) (Ev.neg c (Ev.bindc e1 (Ev.pos hb0 (Ev.pos (by simp only; omega) (Ev.bindc e2 (Ev.pos c0 (Ev.bindc e3 (Ev.now _))))))))
      · by_cases c1 : b2 = 1
        · obtain ⟨b3, a3, s3, e3, _, h3⟩ := among_ok hc (s := s2) h2 (by omega) [(-1), 241, 0] (by simp) (by simp)
          refine ⟨x.set b.toNat ⟨(rd_T26 x b).f0, b3, (rd_T26 x b).f2⟩, a3, s3, ?_, hx.set _ _ hsm, h3.le (by omega) (by omega)⟩
          refine Ev.step (fun k => by rw [spec_l1Cur_archive.l0]) ?_
          exact Ev.neg (by omega) (Ev.neg c (Ev.bindc e1 (Ev.pos hb0 (Ev.pos (by simp only; omega) (Ev.bindc e2 (Ev.neg c0 (Ev.pos c1 (Ev.bindc e3 (Ev.now _)))))))))
        · by_cases c2 : b2 = 2
          · generalize hL : ([(⟨#[97, 10, 98]⟩ : ByteArray), (⟨#[127]⟩ : ByteArray), (⟨#[49, 50, 51, 52, 53, 54, 55, 56, 57, 48, 49, 50, 51, 52, 53, 54, 55, 56, 57, 48, 49, 50, 51, 52, 53, 54, 55, 56, 57, 48, 49, 50, 51, 52, 53, 54, 55, 56, 57, 48, 49, 50, 51, 52, 53, 54, 55, 56, 57, 48, 49, 50, 51, 52, 53, 54, 55, 56, 57, 48, 49]⟩ : ByteArray)] : List ByteArray) = L
            obtain ⟨b3, a3, s3, e3, m3, h3⟩ := of_ok hc (s := s2) h2 (by omega) L (by rw [← hL]; simp) (by rw [← hL]; simp)
            have g : ∀ b ∈ L, b.size ≤ 1000 := by rw [← hL]; decide
            subst hL
            refine ⟨x.set b.toNat ⟨(rd_T26 x b).f0, (rd_T26 x b).f1, b3⟩, a3, s3, ?_, hx.set _ _ ⟨hsm.1, g _ m3⟩, h3.le (by omega) (by omega)⟩
            refine Ev.step (fun k => by rw [spec_l1Cur_archive.l0]) ?_
            exact Ev.neg (by omega) (Ev.neg c (Ev.bindc e1 (Ev.pos hb0 (Ev.pos (by simp only; omega) (Ev.bindc e2 (Ev.neg c0 (Ev.neg c1 (Ev.pos c2 (Ev.bindc e3 (Ev.now _))))))))))
          · by_cases c3 : b2 = 3
            · obtain ⟨r, a3, s3, e3, hr, h3⟩ := archive_l1 hc b (rd_T26 x b).f0 (rd_T26 x b).f1 (rd_T26 x b).f2 hb0 hsm _ x 0 a2 s2 (n + 2 + 2) rfl h2 hx (by omega) (by omega)
              refine ⟨r, a3, s3, ?_, hr, h3.le (by omega) (by omega)⟩
              refine Ev.step (fun k => by rw [spec_l1Cur_archive.l0]) ?_
              exact Ev.neg (by omega) (Ev.neg c (Ev.bindc e1 (Ev.pos hb0 (Ev.pos (by simp only; omega) (Ev.bindc e2 (Ev.neg c0 (Ev.neg c1 (Ev.neg c2 (Ev.pos c3 e3)))))))))
            · refine ⟨x.set b.toNat ⟨(rd_T26 x b).f0, (rd_T26 x b).f1, (rd_T26 x b).f2⟩, a2, s2, ?_, hx.set _ _ hsm, h2.le (by omega) (by omega)⟩
              refine Ev.step (fun k => by rw [spec_l1Cur_archive.l0]) ?_
              exact Ev.neg (by omega) (Ev.neg c (Ev.bindc e1 (Ev.pos hb0 (Ev.pos (by simp only; omega) (Ev.bindc e2 (Ev.neg c0 (Ev.neg c1 (Ev.neg c2 (Ev.neg c3 (Ev.now _))))))))))
  | succ d ih =>
    intro x a s n hA h hn
    obtain ⟨b, c, f, a3, s3, e3, g0, g2, h3⟩ := product_ok hc (s := s) h (by omega)
    have es := store_spec x (arch_small hA).sized ⟨b, c, f⟩ (by simp only; omega)
    have ea := @storeT_arch x ⟨b, c, f⟩
    have key : ∀ y, Arch y → ∃ r a' s', Ev (fun k => spec_l1Cur_archive.l0 k y (wrap64 (((d + 1 : Nat) : Int) - 1)) l a3 s3) (r, a', s') ∧ Small r ∧ At a' (n + 10 * (d + 1) + 60) := fun y hy => by
      obtain ⟨r, a4, s4, e4, hr, h4⟩ := ih y a3 s3 (n + 10) hy h3 (by omega)
      refine ⟨r, a4, s4, ?_, hr, h4.le (by omega) (by omega)⟩
      rw [w64 (x := ((d + 1 : Nat) : Int) - 1) (by omega) (by omega), show ((d + 1 : Nat) : Int) - 1 = (d : Int) from by omega]
      exact e4
    generalize storeT x ⟨b, c, f⟩ = T at es ea
    by_cases hg : T.2 = true
    · obtain ⟨r, a4, s4, e4, hr, h4⟩ := key T.1 (ea hg)
      refine ⟨r, a4, s4, ?_, hr, h4⟩
      refine Ev.step (fun k => by rw [spec_l1Cur_archive.l0]) ?_
      exact Ev.pos (by omega) (Ev.bindc e3 (Ev.bind es (Ev.pos hg e4)))
    · obtain ⟨r, a4, s4, e4, hr, h4⟩ := key x hA
      refine ⟨r, a4, s4, ?_, hr, h4⟩
      refine Ev.step (fun k => by rw [spec_l1Cur_archive.l0]) ?_
      exact Ev.pos (by omega) (Ev.bindc e3 (Ev.bind es (Ev.neg hg e4)))
theorem archive_ok {l : List Int} (hc : Code l) {a s : Int} {n : Nat} (h : At a n) (hn : n ≤ 700000000) : ∃ r a' s', Ev (fun k => spec_l1Cur_archive.f k l a s) (r, a', s') ∧ Small r ∧ At a' (n + 200) := by
  obtain ⟨b, a1, s1, e1, hb0, hb1, h1⟩ := pick_ok hc (s := s) h (by omega) 9 (by omega)
  obtain ⟨d, rfl⟩ : ∃ d : Nat, b = d := ⟨b.toNat, by omega⟩
  obtain ⟨r, a2, s2, e2, hr, h2⟩ := archive_l0 hc d [] a1 s1 (n + 2) ⟨⟨by simp, by simp⟩, by simp⟩ h1 (by omega)
  refine ⟨r, a2, s2, ?_, hr, h2.le (by omega) (by omega)⟩
  unfold spec_l1Cur_archive.f
  exact Ev.bindc e1 e2
theorem at00 : At 0 0 := ⟨by omega, by omega, by omega⟩
end Go.Proofs.YtgmmanppmjlclaaGreatDoor.Pure

/- A drawn text, spoilt at one place. -/
namespace Go.Proofs.YtgmmanppmjlclaaGreatDoor.Pure
open Go.RowKit Go.Proofs.YtgmmanppmjlclaaGreatDoor.P Go.Proofs.YtgmmanppmjlclaaGreatDoorW.PrintWords Go.Proofs.YtgmmanppmjlclaaGreatDoorW.PrintLast

theorem extract_size (s : ByteArray) (i j : Nat) : (s.extract i j).size = min j s.size - i := ByteArray.size_extract
theorem spoilt_ok {l : List Int} (hc : Code l) {p s : Int} {m : Nat} (h : At p m) (hm : m + 10 ≤ 1000000000) (t w : ByteArray) (ht : t.size ≤ 100000) (hw : 1 ≤ w.size) (hw2 : w.size ≤ 100) :
    ∃ u p' s', spec_l1Cur_spoilt.f l p s t w = some (u, p', s') ∧ u.size ≤ t.size + 1 ∧ At p' (m + 10) := by
  unfold spec_l1Cur_spoilt.f
  rw [toList_bs]
  have hl := bs_size t
  by_cases h0 : bs t = []
  · rw [if_pos h0, if_pos (by decide), if_pos (by omega)]
    exact ⟨_, _, _, rfl, by rw [extract_size]; omega, h.le (by omega) hm⟩
  · have hp : 0 < t.size := by rw [← hl]; exact List.length_pos_iff.mpr h0
    obtain ⟨i, p1, s1, e1, hi0, hi1, h1⟩ := pick_ok hc (s := s) h (by omega) (t.size : Int) (by omega)
    obtain ⟨j, p2, s2, e2, hj0, hj1, h2⟩ := pick_ok hc (s := s1) h1 (by omega) (w.size : Int) (by omega)
    obtain ⟨v, p3, s3, e3, hv0, hv1, h3⟩ := pick_ok hc (s := s2) h2 (by omega) 3 (by omega)
    obtain ⟨i, rfl⟩ : ∃ i' : Nat, i = i' := ⟨i.toNat, by omega⟩
    obtain ⟨j, rfl⟩ : ∃ j' : Nat, j = j' := ⟨j.toNat, by omega⟩
    have hi : i < t.size := by omega
    have hj : j < w.size := by omega
    rw [if_neg h0, e1]; simp only [Option.bind_some]
    rw [e2]; simp only [Option.bind_some]
    rw [if_pos hj0, if_pos (by omega), if_pos (by decide), Int.toNat_natCast, Int.toNat_natCast, if_pos (by rw [extract_size]; omega), e3]
    simp only [Option.bind_some]
    rw [w64 (by omega) (by omega), show ((i : Int) + 1).toNat = i + 1 from by omega]
    by_cases c0 : v = 0
    · rw [if_pos c0, if_pos hi0, if_pos (by omega), if_pos (by simp only [extract_size]; omega), if_pos (by simp only [ByteArray.size_append, extract_size]; omega)]
      exact ⟨_, _, _, rfl, by simp only [ByteArray.size_append, extract_size]; omega, h3.le (by omega) hm⟩
    · rw [if_neg c0]
      by_cases c1 : v = 1
      · rw [if_pos c1, if_pos hi0, if_pos (by omega), if_pos (by simp only [extract_size]; omega), if_pos (by omega), if_pos (by omega), if_pos (by simp only [ByteArray.size_append, extract_size]; omega)]
        exact ⟨_, _, _, rfl, by simp only [ByteArray.size_append, extract_size]; omega, h3.le (by omega) hm⟩
      · rw [if_neg c1, if_pos hi0, if_pos (by omega), if_pos (by omega), if_pos (by omega), if_pos (by simp only [extract_size]; omega)]
        exact ⟨_, _, _, rfl, by simp only [ByteArray.size_append, extract_size]; omega, h3.le (by omega) hm⟩
end Go.Proofs.YtgmmanppmjlclaaGreatDoor.Pure

/- What the program's StoreProduct answers. -/
namespace Go.Proofs.YtgmmanppmjlclaaGreatDoor.Pure
open Go.RowKit Go.Proofs.YtgmmanppmjlclaaGreatDoor.P Go.Proofs.YtgmmanppmjlclaaGreatDoorW.PrintWords Go.Proofs.YtgmmanppmjlclaaGreatDoorW.PrintLast
set_option linter.unusedVariables false
set_option linter.unusedSimpArgs false

theorem bs_run (l : List S26) (p : S26) (hA : ∀ a b (ha : a < l.length) (hb : b < l.length), a ≤ b → pLt l[b] p → pLt l[a] p) : ∀ (d i j : Nat), j - i ≤ d → i ≤ j → j ≤ l.length →
    (∀ t (ht : t < l.length), t < i → pLt l[t] p) → (∀ t (ht : t < l.length), j ≤ t → ¬ pLt l[t] p) →
    ∃ n K, n ≤ l.length ∧ (∀ t (ht : t < l.length), t < n → pLt l[t] p) ∧ (∀ t (ht : t < l.length), n ≤ t → ¬ pLt l[t] p) ∧ ∀ k, K ≤ k → ∀ q, d < q → bsP k l p q i j = some n := by
  intro d
  induction d with
  | zero =>
    intro i j hd hij hj h1 h2
    obtain rfl : i = j := by omega
    refine ⟨i, 0, hj, h1, h2, fun k _ q hq => ?_⟩
    obtain ⟨q', rfl⟩ : ∃ q', q = q' + 1 := ⟨q - 1, by omega⟩
    rw [bsP, if_neg (by omega)]
  | succ d ih =>
    intro i j hd hij hj h1 h2
    by_cases hlt : i < j
    · have hm : (i + j) / 2 < l.length := by omega
      obtain ⟨K1, hK1⟩ := compareP l[(i + j) / 2] p
      replace hK1 : ∀ k, K1 ≤ k → impl_compareProducts.f k l[(i + j) / 2].f0 l[(i + j) / 2].f1 l[(i + j) / 2].f2 p.f0 p.f1 p.f2 = some (cmpP l[(i + j) / 2] p) := hK1
      by_cases hp : pLt l[(i + j) / 2] p
      · obtain ⟨n, K, a1, a2, a3, a4⟩ := ih ((i + j) / 2 + 1) j (by omega) (by omega) hj (fun t ht htn => hA t _ ht hm (by omega) hp) h2
        refine ⟨n, max K K1, a1, a2, a3, fun k hk q hq => ?_⟩
        obtain ⟨q', rfl⟩ : ∃ q', q = q' + 1 := ⟨q - 1, by omega⟩
        rw [bsP, if_pos hlt, rdP_lt l _ hm, hK1 k (by omega)]
        show (if cmpP l[(i + j) / 2] p < 0 then _ else _) = _
        rw [if_pos ((cmpP_lt _ _).2 hp)]
        exact a4 k (by omega) q' (by omega)
      · obtain ⟨n, K, a1, a2, a3, a4⟩ := ih i ((i + j) / 2) (by omega) (by omega) (by omega) h1 (fun t ht htn h => hp (hA _ t hm ht htn h))
        refine ⟨n, max K K1, a1, a2, a3, fun k hk q hq => ?_⟩
        obtain ⟨q', rfl⟩ : ∃ q', q = q' + 1 := ⟨q - 1, by omega⟩
        rw [bsP, if_pos hlt, rdP_lt l _ hm, hK1 k (by omega)]
        show (if cmpP l[(i + j) / 2] p < 0 then _ else _) = _
        rw [if_neg (fun h => hp ((cmpP_lt _ _).1 h))]
        exact a4 k (by omega) q' (by omega)
    · obtain rfl : i = j := by omega
      refine ⟨i, 0, hj, h1, h2, fun k _ q hq => ?_⟩
      obtain ⟨q', rfl⟩ : ∃ q', q = q' + 1 := ⟨q - 1, by omega⟩
      rw [bsP, if_neg (by omega)]
theorem cmpP_eq (a b : S26) : cmpP a b = 0 ↔ (bs a.f0 = bs b.f0 ∧ a.f1 = b.f1) := by
  have h := cmpB_lt (bs a.f0) (bs b.f0)
  unfold cmpP
  by_cases h0 : Lib.compareBytes (bs a.f0) (bs b.f0) = 0
  · rw [if_neg (by simpa using h0)]
    have e := h.2.1 h0
    simp only [e, true_and]
    split
    · simp; omega
    · split
      · simp; omega
      · simp; omega
  · rw [if_pos h0]
    have hn : ¬ bs a.f0 = bs b.f0 := fun e => h0 (h.2.2 e)
    simp [hn, h0]
theorem bytes_ne_lt {x y : List UInt8} (h : x ≠ y) (h1 : ¬ x < y) : y < x := by
  apply Classical.byContradiction
  intro h2
  exact h (List.le_antisymm (List.not_lt.1 h2) (List.not_lt.1 h1))
theorem pLt_other {a b : S26} (h : ¬ pLt a b) : (cmpP a b = 0 ∧ ¬ pLt b a) ∨ (cmpP a b ≠ 0 ∧ pLt b a) := by
  by_cases h0 : cmpP a b = 0
  · refine .inl ⟨h0, ?_⟩
    obtain ⟨e1, e2⟩ := (cmpP_eq a b).1 h0
    rintro (h2 | ⟨_, h2⟩)
    · rw [e1] at h2; exact List.lt_irrefl _ h2
    · omega
  · refine .inr ⟨h0, ?_⟩
    by_cases e : bs a.f0 = bs b.f0
    · refine .inr ⟨e.symm, ?_⟩
      have h1 : ¬ a.f1 < b.f1 := fun h2 => h (.inr ⟨e, h2⟩)
      have h2 : a.f1 ≠ b.f1 := fun e2 => h0 ((cmpP_eq a b).2 ⟨e, e2⟩)
      omega
    · exact .inl (bytes_ne_lt e (fun h2 => h (.inl h2)))
theorem stoL_split (p : S26) : ∀ (l : List S26) (n : Nat), n ≤ l.length → (∀ t (ht : t < l.length), t < n → pLt l[t] p) → stoL p l = l.take n ++ stoL p (l.drop n)
  | l, 0, _, _ => by simp
  | [], n + 1, h, _ => by simp at h
  | x :: xs, n + 1, h, h1 => by
    have h0 : pLt x p := h1 0 (by simp) (by omega)
    have ih := stoL_split p xs n (by simpa using h) (fun t ht htn => by have := h1 (t + 1) (by simpa using ht) (by omega); simpa using this)
    simp only [stoL]
    rw [if_pos h0, ih]
    simp
theorem sto_out (p : S26) (l : List S26) (n : Nat) (hn : n ≤ l.length) (h1 : ∀ t (ht : t < l.length), t < n → pLt l[t] p) (h2 : ∀ t (ht : t < l.length), n ≤ t → ¬ pLt l[t] p) :
    ∃ b, Ev (fun k => bsF k l p n) b ∧ storeOut l p n b = stoL p l := by
  rw [stoL_split p l n hn h1]
  by_cases hlt : n < l.length
  · have hx := h2 n hlt (Nat.le_refl _)
    rw [drop_cons' l n hlt]
    simp only [stoL]
    rw [if_neg hx]
    have hf : ∀ b, (cmpP l[n] p == 0) = b → Ev (fun k => bsF k l p n) b := fun b hb => by
      unfold bsF
      rw [rdP_lt l n hlt]
      exact Ev.pos hlt (Ev.bind (compareP l[n] p) (Ev.const (by rw [hb])))
    rcases pLt_other hx with ⟨e, hy⟩ | ⟨e, hy⟩
    · refine ⟨true, hf _ (by simpa using e), ?_⟩
      rw [if_neg hy, storeOut, if_pos rfl, List.set_eq_take_append_cons_drop, if_pos hlt]
    · refine ⟨false, hf _ (by simpa using e), ?_⟩
      rw [if_pos hy, storeOut, if_neg (by decide), drop_cons' l n hlt]
  · refine ⟨false, ?_, ?_⟩
    · unfold bsF; exact Ev.neg hlt (Ev.now _)
    · rw [storeOut, if_neg (by decide), List.drop_of_length_le (by omega)]; simp [stoL]
theorem stoL_in (p : S26) : ∀ l : List S26, p ∈ stoL p l
  | [] => by simp [stoL]
  | x :: xs => by
    have := stoL_in p xs
    simp only [stoL]
    split
    · simp [this]
    · split <;> simp
theorem store_impl (l : List S26) (hz : Sized l) (p : S26) (hp : p.f0.size ≤ 1048576 ∧ p.f2.size ≤ 1048576) : Ev (fun k => impl_StoreProduct.f k l p.f0 p.f1 p.f2) (storeT l p) := by
  unfold impl_StoreProduct.f storeT
  refine Ev.bind (isArchive l hz) ?_
  by_cases ha : archB l = true
  · have hA := archB_true.1 ha
    simp only [if_pos ha]
    refine Ev.bind (isProduct p.f0 p.f1 p.f2 (by omega) (by omega)) ?_
    by_cases hb : prodB p = true
    · refine Ev.pos hb (Ev.pos (Nat.le_trans hA.2 (by decide)) ?_)
      obtain ⟨n, K, hn, h1, h2, hrun⟩ := bs_run l p (fun a b ha hb hab h => by
        rcases Nat.eq_or_lt_of_le hab with rfl | hlt
        · exact h
        · exact pLt_trans (List.pairwise_iff_getElem.1 hA.1.2 a b ha hb hlt) h) l.length 0 l.length (by omega) (by omega) (by omega) (fun t _ h => by omega) (fun t ht h => by omega)
      obtain ⟨b, hf, ho⟩ := sto_out p l n hn h1 h2
      have hrun' : Ev (fun k => bsP k l p k 0 l.length) n := ⟨max K (l.length + 1), fun k hk => hrun k (by omega) k (by omega)⟩
      refine Ev.bind hrun' (Ev.bind hf ?_)
      show Ev (fun k => (impl_IsValidArchive.f k (storeOut l p n b)).bind fun t3 => if t3 = true then some (storeOut l p n b, true) else some ([], false)) (goodR (stoL p l))
      rw [ho]
      refine Ev.bind (isArchive _ (stoL_sized p hz (by have := hA.2; omega) hp)) (Ev.cases (fun h => Ev.const ?_) (fun h => Ev.const ?_))
      · unfold goodR; rw [if_pos h]
      · unfold goodR; rw [if_neg h]
    · refine Ev.neg hb (Ev.const ?_)
      have hno : ¬ archB (stoL p l) = true := fun h => hb ((archB_true.1 h).1.1 p (stoL_in p l))
      unfold goodR
      rw [if_neg hno]
  · simp only [if_neg ha]
    exact Ev.now _
end Go.Proofs.YtgmmanppmjlclaaGreatDoor.Pure

/- The version of a name that is valid at an hour: the program looks from behind, the reference from the front. -/
namespace Go.Proofs.YtgmmanppmjlclaaGreatDoor.Pure
open Go.RowKit Go.Proofs.YtgmmanppmjlclaaGreatDoor.P Go.Proofs.YtgmmanppmjlclaaGreatDoorW.PrintWords Go.Proofs.YtgmmanppmjlclaaGreatDoorW.PrintLast
set_option linter.unusedVariables false

theorem withinP (x a b : Int) : impl_within.f x a b = some (decide (a ≤ x ∧ x ≤ b)) := by
  unfold impl_within.f
  by_cases h : x ≥ a
  · rw [if_pos h]; congr 1; simp; omega
  · rw [if_neg h]; congr 1; simp; omega
end Go.Proofs.YtgmmanppmjlclaaGreatDoor.Pure

/- The version that is valid at an hour: the program's answer and the reference's. -/
namespace Go.Proofs.YtgmmanppmjlclaaGreatDoor.Pure
open Go.RowKit Go.Proofs.YtgmmanppmjlclaaGreatDoor.P Go.Proofs.YtgmmanppmjlclaaGreatDoorW.PrintWords Go.Proofs.YtgmmanppmjlclaaGreatDoorW.PrintLast
set_option linter.unusedVariables false

open Classical in
noncomputable def validT (l : List S26) (n : ByteArray) (h : Int) : S26 × Bool := if archB l = true ∧ nameB (bs n) = true ∧ 0 ≤ h ∧ h ≤ 240 then vpOf n h l.reverse else (z26, false)
theorem valid_impl (l : List S26) (n : ByteArray) (h : Int) (hs : Sized l) (hn : n.size ≤ 1048576) : Ev (fun k => impl_ValidProduct.f k l n h) ((validT l n h).1.f0, (validT l n h).1.f1, (validT l n h).1.f2, (validT l n h).2) := by
  unfold impl_ValidProduct.f validT
  refine Ev.bind (isArchive l hs) (Ev.cases (fun h1 => ?_) (fun h1 => by rw [if_neg (fun h => h1 h.1)]; exact Ev.now _))
  refine Ev.bind (isName n (by omega)) (Ev.cases (fun h2 => ?_) (fun h2 => by rw [if_neg (fun h => h2 h.2.1)]; exact Ev.now _))
  refine Ev.bindc (withinP _ _ _) (Ev.cases (fun h3 => ?_) (fun h3 => by rw [if_neg (fun h => h3 (decide_eq_true h.2.2))]; exact Ev.now _))
  rw [if_pos ⟨h1, h2, of_decide_eq_true h3⟩]
  have hl := (archB_true.1 h1).2
  refine Ev.bindc (b := ((vpOf n h l.reverse).1.f0, (vpOf n h l.reverse).1.f1, (vpOf n h l.reverse).1.f2, (vpOf n h l.reverse).2)) (by unfold impl_validProduct.f; rw [if_pos (by omega)]) (Ev.now _)
end Go.Proofs.YtgmmanppmjlclaaGreatDoor.Pure

/- The versions of a name; all names. -/
namespace Go.Proofs.YtgmmanppmjlclaaGreatDoor.Pure
open Go.RowKit Go.Proofs.YtgmmanppmjlclaaGreatDoor.P Go.Proofs.YtgmmanppmjlclaaGreatDoorW.PrintWords Go.Proofs.YtgmmanppmjlclaaGreatDoorW.PrintLast
set_option linter.unusedVariables false

def verL (n : List UInt8) : List S26 → List Int
  | [] => []
  | d :: ds => if bs d.f0 = n then d.f1 :: verL n ds else verL n ds
theorem verL_len (n : List UInt8) : ∀ l : List S26, (verL n l).length ≤ l.length
  | [] => by simp [verL]
  | d :: ds => by
    have := verL_len n ds
    simp only [verL]
    split <;> simp <;> omega
noncomputable def verT (l : List S26) (n : ByteArray) : List Int × Bool := if archB l = true ∧ nameB (bs n) = true then (verL (bs n) l, true) else ([], false)
theorem verT_len (l : List S26) (n : ByteArray) : (verT l n).1.length ≤ 20 := by
  unfold verT
  split
  · rename_i h
    have := (archB_true.1 h.1).2
    have := verL_len (bs n) l
    simp only; omega
  · simp
theorem ver_l0 (l : List S26) (n : ByteArray) (hl : l.length ≤ 20) : ∀ (d i : Nat) (acc : List Int), l.length - i = d → i ≤ l.length → acc.length ≤ i →
    Ev (fun k => impl_VersionsOf.l0 k n acc l (l.length : Int) (i : Int)) (acc ++ verL (bs n) (l.drop i), true) := by
  intro d
  induction d with
  | zero =>
    intro i acc hd hi ha
    refine Ev.step (fun k => by rw [impl_VersionsOf.l0]) ?_
    refine Ev.neg (by omega) (Ev.const ?_)
    rw [List.drop_of_length_le (by omega)]; simp [verL]
  | succ d ih =>
    intro i acc hd hi ha
    have hlt : i < l.length := by omega
    refine Ev.step (fun k => by rw [impl_VersionsOf.l0]) ?_
    refine Ev.pos (by omega) (Ev.pos (by omega) (Ev.pos (by omega) ?_))
    rw [rdP_lt l i hlt, w64 (x := (i : Int) + 1) (by omega) (by omega), show (i : Int) + 1 = ((i + 1 : Nat) : Int) from by omega, drop_cons' l i hlt, toList_bs, toList_bs]
    simp only [verL]
    refine Ev.cases (fun h => ?_) (fun h => ?_)
    · rw [if_pos h]
      exact Ev.pos (by omega) (Ev.eq (ih (i + 1) _ (by omega) (by omega) (by simp; omega)) (by simp))
    · rw [if_neg h]
      exact ih (i + 1) _ (by omega) (by omega) (by omega)
theorem verS_l0 (l : List S26) (n : ByteArray) (hl : l.length ≤ 20) : ∀ (d i : Nat) (acc : List Int), l.length - i = d → i ≤ l.length → acc.length ≤ i →
    Ev (fun k => spec_VersionsOf.l0 k l n acc (i : Int)) (acc ++ verL (bs n) (l.drop i), true) := by
  intro d
  induction d with
  | zero =>
    intro i acc hd hi ha
    refine Ev.step (fun k => by rw [spec_VersionsOf.l0]) ?_
    refine Ev.neg (by omega) (Ev.const ?_)
    rw [List.drop_of_length_le (by omega)]; simp [verL]
  | succ d ih =>
    intro i acc hd hi ha
    have hlt : i < l.length := by omega
    refine Ev.step (fun k => by rw [spec_VersionsOf.l0]) ?_
    refine Ev.pos (by omega) (Ev.pos (by omega) ?_)
    rw [rdP_lt l i hlt, w64 (x := (i : Int) + 1) (by omega) (by omega), show (i : Int) + 1 = ((i + 1 : Nat) : Int) from by omega, drop_cons' l i hlt, toList_bs, toList_bs]
    simp only [verL]
    refine Ev.cases (fun h => ?_) (fun h => ?_)
    · rw [if_pos h]
      exact Ev.pos (by omega) (Ev.eq (ih (i + 1) _ (by omega) (by omega) (by simp; omega)) (by simp))
    · rw [if_neg h]
      exact ih (i + 1) _ (by omega) (by omega) (by omega)
theorem ver_impl (l : List S26) (n : ByteArray) (hs : Sized l) (hn : n.size ≤ 1048576) : Ev (fun k => impl_VersionsOf.f k l n) (verT l n) := by
  unfold impl_VersionsOf.f verT
  have hbad : ∀ x, x = true → Ev (fun k => impl_VersionsOf.j0 k l n x) ([], false) := fun x hx => by
    subst hx
    refine Ev.step (fun k => by rw [impl_VersionsOf.j0]) ?_
    exact Ev.pos rfl (Ev.now _)
  refine Ev.bind (isArchive l hs) (Ev.cases (fun h1 => ?_) (fun h1 => ?_))
  · refine Ev.bind (isName n (by omega)) ?_
    by_cases h2 : nameB (bs n) = true
    · rw [if_pos ⟨h1, h2⟩, h2]
      refine Ev.step (fun k => by rw [impl_VersionsOf.j0]) ?_
      have h := ver_l0 l n (archB_true.1 h1).2 _ 0 [] rfl (by omega) (by simp)
      exact Ev.neg (by decide) (by simpa using h)
    · rw [if_neg (fun h => h2 h.2), Bool.eq_false_iff.mpr h2]
      exact hbad _ rfl
  · rw [if_neg (fun h => h1 h.1)]
    exact hbad _ rfl
theorem ver_spec (l : List S26) (n : ByteArray) (hs : Sized l) (hn : n.size ≤ 1048576) : Ev (fun k => spec_VersionsOf.f k l n) (verT l n) := by
  unfold spec_VersionsOf.f verT
  simp only [Option.bind_some]
  have hbad : ∀ x, x = true → Ev (fun k => spec_VersionsOf.j0 k l n [] x) ([], false) := fun x hx => by
    subst hx
    refine Ev.step (fun k => by rw [spec_VersionsOf.j0]) ?_
    exact Ev.pos rfl (Ev.now _)
  refine Ev.bind (goodArchive l hs) (Ev.cases (fun h1 => ?_) (fun h1 => ?_))
  · refine Ev.bind (nameS n (by omega)) ?_
    by_cases h2 : nameB (bs n) = true
    · rw [if_pos ⟨h1, h2⟩, h2]
      refine Ev.step (fun k => by rw [spec_VersionsOf.j0]) ?_
      have h := verS_l0 l n (archB_true.1 h1).2 _ 0 [] rfl (by omega) (by simp)
      exact Ev.neg (by decide) (by simpa using h)
    · rw [if_neg (fun h => h2 h.2), Bool.eq_false_iff.mpr h2]
      exact hbad _ rfl
  · rw [if_neg (fun h => h1 h.1)]
    exact hbad _ rfl
end Go.Proofs.YtgmmanppmjlclaaGreatDoor.Pure

/- ArchiveText: the text of an archive, of the program and of the reference. -/
namespace Go.Proofs.YtgmmanppmjlclaaGreatDoor.Pure
open Go.RowKit Go.Proofs.YtgmmanppmjlclaaGreatDoor.P Go.Proofs.YtgmmanppmjlclaaGreatDoorW.PrintWords Go.Proofs.YtgmmanppmjlclaaGreatDoorW.PrintLast
set_option linter.unusedVariables false
set_option linter.unusedSimpArgs false

noncomputable def attT (l : List S26) : ByteArray × Bool := if archB l = true then (archUp l l.length, true) else (⟨#[]⟩, false)
theorem prod_z {z : S26} (h : prodB z = true) : archZ z = true ∧ 0 ≤ z.f1 ∧ z.f1 ≤ 240 := by
  simp only [prodB, nameB, Bool.and_eq_true, decide_eq_true_eq] at h
  obtain ⟨⟨_, _, h1⟩, ⟨h2, h3⟩, h4, _⟩ := h
  rw [bs_size] at h1
  refine ⟨?_, h2, h3⟩
  simp only [archZ, Bool.and_eq_true, decide_eq_true_eq]
  omega
theorem arch_z {l : List S26} (h : Arch l) : l.all archZ = true := List.all_eq_true.mpr fun z hz => (prod_z (h.1.1 z hz)).1
theorem att_impl (l : List S26) (hs : Sized l) : Ev (fun k => impl_ArchiveText.f k l) (attT l) := by
  unfold impl_ArchiveText.f attT
  refine Ev.bind (isArchive l hs) ?_
  by_cases h : archB l = true
  · have ha := archB_true.1 h
    have e : impl_archiveText.f l = some (archUp l l.length) := by
      unfold impl_archiveText.f
      rw [if_pos (by rw [arch_z ha, decide_eq_true (Nat.le_trans ha.2 (by decide))]; rfl)]
    simp only [if_pos h]
    exact Ev.bindc e (Ev.now _)
  · simp only [if_neg h]
    exact Ev.now _
theorem attS_l0 (l : List S26) (ha : Arch l) : ∀ (d i : Nat), l.length - i = d → i ≤ l.length →
    Ev (fun k => spec_ArchiveText.l0 k l (archUp l i) (i : Int)) (archUp l l.length, true) := by
  intro d
  induction d with
  | zero =>
    intro i hd hi
    refine Ev.step (fun k => by rw [spec_ArchiveText.l0]) ?_
    refine Ev.neg (by omega) (Ev.const ?_)
    rw [show i = l.length by omega]
  | succ d ih =>
    intro i hd hi
    have hlt : i < l.length := by omega
    have hup := archUp_size (arch_z ha) i hi
    have h20 := ha.2
    have hz := prod_z (ha.1.1 _ (List.getElem_mem hlt))
    have hrd : rd_T26 l (i : Int) = l[i] := rdP_lt l i hlt
    have hnx : archUp l (i + 1) = archUp l i ++ archLine l[i] := by rw [archUp, hrd]
    have h1 := ih (i + 1) (by omega) (by omega)
    rw [hnx] at h1
    refine Ev.step (fun k => by rw [spec_ArchiveText.l0]) ?_
    rw [hrd, w64 (x := (i : Int) + 1) (by omega) (by omega), show (i : Int) + 1 = ((i + 1 : Nat) : Int) from by omega]
    generalize l[i] = u at hz h1
    generalize archUp l i = X at hup h1
    obtain ⟨hz1, h0, h240⟩ := hz
    simp only [archZ, Bool.and_eq_true, decide_eq_true_eq] at hz1
    have hn := Lib.itoa_length_le u.f1 (by omega) (by omega)
    have eN : spec_l1Num.f u.f1 = some ⟨(Lib.itoa u.f1).toArray⟩ := by unfold spec_l1Num.f; rw [if_pos (by omega), if_pos (by omega)]
    have e1 : (⟨(Lib.itoa u.f1).toArray⟩ : ByteArray).size = (Lib.itoa u.f1).length := by simp [ByteArray.size]
    unfold archLine at h1
    generalize (⟨(Lib.itoa u.f1).toArray⟩ : ByteArray) = N at eN e1 h1
    have e2 : (⟨#[32]⟩ : ByteArray).size = 1 := rfl
    have e3 : (⟨#[10]⟩ : ByteArray).size = 1 := rfl
    refine Ev.pos (by omega) (Ev.pos (by omega) ?_)
    refine Ev.pos (by omega) (Ev.pos (by simp only [ByteArray.size_append]; omega) (Ev.bindc eN ?_))
    refine Ev.pos (by simp only [ByteArray.size_append, e2]; omega) (Ev.pos (by simp only [ByteArray.size_append, e2]; omega) (Ev.pos (by simp only [ByteArray.size_append, e2]; omega) (Ev.pos (by simp only [ByteArray.size_append, e2]; omega) ?_)))
    simpa only [ByteArray.append_assoc] using h1
theorem att_spec (l : List S26) (hs : Sized l) : Ev (fun k => spec_ArchiveText.f k l) (attT l) := by
  unfold spec_ArchiveText.f attT
  refine Ev.bind (goodArchive l hs) ?_
  by_cases h : archB l = true
  · simp only [if_pos h]
    exact (attS_l0 l (archB_true.1 h) _ 0 rfl (by omega))
  · simp only [if_neg h]
    exact Ev.now _
end Go.Proofs.YtgmmanppmjlclaaGreatDoor.Pure

/- Cuts at a byte; the parts of a text. -/
namespace Go.Proofs.YtgmmanppmjlclaaGreatDoor.Pure
open Go.RowKit Go.Proofs.YtgmmanppmjlclaaGreatDoor.P Go.Proofs.YtgmmanppmjlclaaGreatDoorW.PrintWords Go.Proofs.YtgmmanppmjlclaaGreatDoorW.PrintLast

/-! ### where a byte stands -/
theorem span_at (x : UInt8) : ∀ l : List UInt8, x ∈ l → ∃ a t, l = a ++ x :: t ∧ ∀ b ∈ a, b ≠ x
  | [], h => by simp at h
  | y :: l, h => by
    by_cases e : y = x
    · exact ⟨[], l, by simp [e], by simp⟩
    · obtain ⟨a, t, h1, h2⟩ := span_at x l (by simpa [Ne.symm e] using h)
      exact ⟨y :: a, t, by simp [h1], by simpa [e] using h2⟩
/-- A text is cut at the first such byte in one way alone. -/
theorem span_inj {x : UInt8} : ∀ {a a' t t' : List UInt8}, (∀ b ∈ a, b ≠ x) → (∀ b ∈ a', b ≠ x) → a ++ x :: t = a' ++ x :: t' → a = a' ∧ t = t'
  | [], [], t, t', _, _, h => by simpa using h
  | [], y :: a', t, t', _, h2, h => by
    have h3 : x = y := by simpa using (List.cons.inj h).1
    exact absurd h3.symm (h2 y (by simp))
  | y :: a, [], t, t', h1, _, h => by
    have h3 : y = x := by simpa using (List.cons.inj h).1
    exact absurd h3 (h1 y (by simp))
  | y :: a, z :: a', t, t', h1, h2, h => by
    obtain ⟨e, h⟩ := List.cons.inj h
    obtain ⟨e2, e3⟩ := span_inj (fun b hb => h1 b (by simp [hb])) (fun b hb => h2 b (by simp [hb])) h
    exact ⟨by rw [e, e2], e3⟩
theorem indexByte_hit (x : UInt8) : ∀ (a t : List UInt8), (∀ b ∈ a, b ≠ x) → Lib.indexByte (a ++ x :: t) x = (a.length : Int)
  | [], t, _ => by simp [Lib.indexByte]
  | y :: a, t, h => by
    have ih := indexByte_hit x a t (fun b hb => h b (by simp [hb]))
    have h1 : (y == x) = false := by simpa using h y (by simp)
    simp only [List.cons_append, Lib.indexByte, h1, ih, List.length_cons]
    rw [if_neg (by simp), if_neg (by simp)]
    first | omega | simp
theorem indexByte_miss (x : UInt8) : ∀ (a : List UInt8), (∀ b ∈ a, b ≠ x) → Lib.indexByte a x = -1
  | [], _ => rfl
  | y :: a, h => by
    have ih := indexByte_miss x a (fun b hb => h b (by simp [hb]))
    have h1 : (y == x) = false := by simpa using h y (by simp)
    simp only [Lib.indexByte, h1, ih]
    simp
theorem index_f (s : ByteArray) (x : UInt8) : stringslite_Index.f s ⟨#[x]⟩ = some (Lib.indexByte (bs s) x) := by
  unfold stringslite_Index.f
  rw [if_pos (show (⟨#[x]⟩ : ByteArray).size = 1 from rfl)]; rfl
theorem cut_hit {s : ByteArray} {x : UInt8} {a t : List UInt8} (hs : s.size ≤ 4611686018427387904) (h : bs s = a ++ x :: t) (ha : ∀ b ∈ a, b ≠ x) :
    strings_Cut.f s ⟨#[x]⟩ = some (⟨a.toArray⟩, ⟨t.toArray⟩, true) := by
  have hl : (bs s).length = a.length + t.length + 1 := by rw [h]; simp; omega
  rw [bs_size] at hl
  unfold strings_Cut.f stringslite_Cut.f
  rw [index_f, h, indexByte_hit x a t ha]
  simp only [Option.bind_some]
  rw [show ((⟨#[x]⟩ : ByteArray).size : Int) = 1 from rfl, w64 (by omega) (by omega), if_pos (by omega), if_pos (by omega), if_pos (by omega), if_pos (by omega), if_pos (by omega)]
  simp only [Option.bind_some, Option.some.injEq, Prod.mk.injEq, and_true]
  constructor
  · apply bs_inj
    rw [bs_extract, bs_mk a, h]
    simp
  · apply bs_inj
    rw [bs_extract, bs_mk t, h, show ((a.length : Int) + 1).toNat = a.length + 1 from by omega, show a ++ x :: t = (a ++ [x]) ++ t from by simp, List.drop_append_of_le_length (by simp)]
    rw [List.drop_of_length_le (by simp), List.nil_append]
    exact List.take_of_length_le (by omega)
theorem cut_miss {s : ByteArray} {x : UInt8} (h : ∀ b ∈ bs s, b ≠ x) : strings_Cut.f s ⟨#[x]⟩ = some (s, ⟨#[]⟩, false) := by
  unfold strings_Cut.f stringslite_Cut.f
  rw [index_f, indexByte_miss x _ h]
  simp only [Option.bind_some]
  rw [if_neg (by omega)]; rfl

/-! ### the reference's parts of a text: their first -/
end Go.Proofs.YtgmmanppmjlclaaGreatDoor.Pure

/- Decimal texts are read back, by the program and by the reference. -/
namespace Go.Proofs.YtgmmanppmjlclaaGreatDoor.Pure
open Go.RowKit Go.Proofs.YtgmmanppmjlclaaGreatDoor.P Go.Proofs.YtgmmanppmjlclaaGreatDoorW.PrintWords Go.Proofs.YtgmmanppmjlclaaGreatDoorW.PrintLast
set_option linter.unusedVariables false
set_option linter.unusedSimpArgs false

theorem decFrom_app (b : UInt8) (d : Nat) (hd : Lib.digitVal b = some d) : ∀ (l : List UInt8) (acc n : Nat), Lib.decFrom acc l = some n → Lib.decFrom acc (l ++ [b]) = some (n * 10 + d)
  | [], acc, n, h => by
    have e : acc = n := by simpa [Lib.decFrom] using h
    subst e
    simp [Lib.decFrom, hd]
  | a :: l, acc, n, h => by
    simp only [List.cons_append, Lib.decFrom] at h ⊢
    cases ha : Lib.digitVal a with
    | none => rw [ha] at h; cases h
    | some e => rw [ha] at h; exact decFrom_app b d hd l _ n h
theorem digit_val (d : Nat) (h : d < 10) : Lib.digitVal (UInt8.ofNat (48 + d)) = some d := by
  have H : ∀ d : Fin 10, Lib.digitVal (UInt8.ofNat (48 + d.val)) = some d.val := by decide
  exact H ⟨d, h⟩
theorem digit_range (d : Nat) (h : d < 10) : 48 ≤ (UInt8.ofNat (48 + d)).toNat ∧ (UInt8.ofNat (48 + d)).toNat ≤ 57 := by
  have H : ∀ d : Fin 10, 48 ≤ (UInt8.ofNat (48 + d.val)).toNat ∧ (UInt8.ofNat (48 + d.val)).toNat ≤ 57 := by decide
  exact H ⟨d, h⟩
theorem decFrom_digits (n : Nat) : Lib.decFrom 0 (Lib.decDigits n) = some n := by
  induction n using Nat.strongRecOn with
  | _ n ih =>
    by_cases h : n < 10
    · rw [Lib.decDigits_one h]
      unfold Lib.decFrom
      rw [digit_val n h]
      simp [Lib.decFrom]
    · rw [Lib.decDigits, dif_neg h, decFrom_app _ _ (digit_val (n % 10) (Nat.mod_lt _ (by decide))) _ 0 _ (ih (n / 10) (by omega))]
      congr 1
      omega
theorem digits_all (n : Nat) : ∀ b ∈ Lib.decDigits n, 48 ≤ b.toNat ∧ b.toNat ≤ 57 := by
  induction n using Nat.strongRecOn with
  | _ n ih =>
    intro b hb
    by_cases h : n < 10
    · rw [Lib.decDigits_one h] at hb
      rw [List.mem_singleton.1 hb]
      exact digit_range n h
    · rw [Lib.decDigits, dif_neg h] at hb
      rcases List.mem_append.1 hb with h1 | h1
      · exact ih (n / 10) (by omega) b h1
      · rw [List.mem_singleton.1 h1]
        exact digit_range _ (Nat.mod_lt _ (by decide))
theorem digits_pos (n : Nat) : 1 ≤ (Lib.decDigits n).length := by
  rw [Lib.decDigits]; split <;> simp
theorem digits_le3 (n : Nat) (h : n ≤ 240) : (Lib.decDigits n).length ≤ 3 := by
  rw [Lib.decDigits_length]
  by_cases h1 : n < 10
  · rw [Lib.nDigits_small h1]; omega
  · rw [Lib.nDigits_big h1]
    by_cases h2 : n / 10 < 10
    · rw [Lib.nDigits_small h2]; omega
    · rw [Lib.nDigits_big h2, Lib.nDigits_small (by omega)]; omega
theorem atoi_digits (n : Nat) (h : n ≤ 240) : Lib.atoiAll (Lib.decDigits n) = .ok (n : Int) := by
  have h3 := digits_le3 n h
  rw [Lib.atoiAll_short _ (by omega)]
  have hp := digits_pos n
  have hd := digits_all n
  have hf := decFrom_digits n
  generalize Lib.decDigits n = l at *
  match l, hp, hd, hf with
  | b :: r, _, hd, hf =>
    obtain ⟨h1, h2⟩ := hd b (by simp)
    have e1 : (b == 45) = false := by
      rw [beq_eq_false_iff_ne]; intro e; rw [e] at h1; exact absurd h1 (by decide)
    have e2 : (b == 43) = false := by
      rw [beq_eq_false_iff_ne]; intro e; rw [e] at h1; exact absurd h1 (by decide)
    unfold Lib.atoi
    simp only [e1, e2, Bool.false_eq_true, if_false]
    unfold Lib.decNat
    rw [if_neg (by simp), hf]
    rfl
theorem itoa_n (n : Nat) : Lib.itoa (n : Int) = Lib.decDigits n := Lib.itoa_nonneg n
theorem parseInt_digits (n : Nat) (h : n ≤ 240) : impl_ParseInt.f ⟨(Lib.decDigits n).toArray⟩ = some ((n : Int), true) := by
  have h3 := digits_le3 n h
  unfold impl_ParseInt.f atoiP
  rw [if_pos (by rw [size_mk]; omega)]
  have e : (⟨(Lib.decDigits n).toArray⟩ : ByteArray).data.toList = Lib.decDigits n := by simp
  rw [e, atoi_digits n h]
  simp only
  rw [if_pos ⟨by omega, by omega, by rw [itoa_n]⟩]
theorem parseInt_some (s : ByteArray) (h : s.size ≤ 281474976710656) : ∃ r, impl_ParseInt.f s = some r := by
  unfold impl_ParseInt.f
  rw [if_pos h]
  split
  · split
    · exact ⟨_, rfl⟩
    · exact ⟨_, rfl⟩
  · exact ⟨_, rfl⟩

/-! ### the reference's number -/
theorem l1Num_any (n : Int) (h1 : -1000000 ≤ n) (h2 : n ≤ 1000000) : spec_l1Num.f n = some ⟨(Lib.itoa n).toArray⟩ := by
  unfold spec_l1Num.f; rw [if_pos (by omega), if_pos (by omega)]
theorem pow_le6 (i : Nat) (h : i ≤ 6) : 10 ^ i ≤ 1000000 := Nat.le_trans (Nat.pow_le_pow_right (by decide) h) (by decide)
theorem read_l0 (s t : ByteArray) (ht : t.size ≤ 6) : ∀ (d i m : Nat), t.size - i = d → i ≤ t.size → m < 10 ^ i →
    ∃ r, Ev (fun k => spec_l1Read.l0 k s t (m : Int) (i : Int)) r ∧ (∀ n : Nat, t.size = s.size → Lib.decFrom m ((bs t).drop i) = some n → (⟨(Lib.decDigits n).toArray⟩ : ByteArray) = s → r = ((n : Int), true)) := by
  have hl := bs_size t
  intro d
  induction d with
  | zero =>
    intro i m hd hi hm
    have hp := pow_le6 i (by omega)
    by_cases hs : (t.size : Int) < (s.size : Int)
    · by_cases he : (⟨(Lib.itoa (-(m : Int))).toArray⟩ : ByteArray).toList = s.toList
      · refine ⟨(-(m : Int), true), Ev.step (fun k => by rw [spec_l1Read.l0]) (Ev.neg (by omega) (Ev.pos hs ?_)), fun n h => by omega⟩
        rw [w64 (by omega) (by omega)]
        exact Ev.bindc (l1Num_any _ (by omega) (by omega)) (Ev.pos he (Ev.const rfl))
      · refine ⟨(0, false), Ev.step (fun k => by rw [spec_l1Read.l0]) (Ev.neg (by omega) (Ev.pos hs ?_)), fun n h => by omega⟩
        rw [w64 (by omega) (by omega)]
        exact Ev.bindc (l1Num_any _ (by omega) (by omega)) (Ev.neg he (Ev.const rfl))
    · by_cases he : (⟨(Lib.itoa (m : Int)).toArray⟩ : ByteArray).toList = s.toList
      · refine ⟨((m : Int), true), Ev.step (fun k => by rw [spec_l1Read.l0]) (Ev.neg (by omega) (Ev.neg hs (Ev.bindc (l1Num_any _ (by omega) (by omega)) (Ev.pos he (Ev.const rfl))))), fun n h1 h2 h3 => ?_⟩
        rw [List.drop_of_length_le (by omega)] at h2
        have e : m = n := by simpa [Lib.decFrom] using h2
        rw [e]
      · refine ⟨(0, false), Ev.step (fun k => by rw [spec_l1Read.l0]) (Ev.neg (by omega) (Ev.neg hs (Ev.bindc (l1Num_any _ (by omega) (by omega)) (Ev.neg he (Ev.const rfl))))), fun n h1 h2 h3 => ?_⟩
        rw [List.drop_of_length_le (by omega)] at h2
        have e : m = n := by simpa [Lib.decFrom] using h2
        subst e
        exact absurd (by rw [itoa_n, h3]) he
  | succ d ih =>
    intro i m hd hi hm
    have hlt : i < (bs t).length := by omega
    have hb := bt_bs t i hlt
    have hp := pow_le6 i (by omega)
    by_cases h1 : (((bs t)[i]).toNat : Int) < 48
    · refine ⟨(0, false), Ev.step (fun k => by rw [spec_l1Read.l0]) (Ev.pos (by omega) (Ev.pos (by omega) ?_)), fun n _ h2 _ => ?_⟩
      · rw [hb]; exact Ev.pos h1 (Ev.const rfl)
      · rw [drop_cons' _ i hlt] at h2
        simp only [Lib.decFrom, Lib.digitVal] at h2
        rw [if_neg (by omega)] at h2
        cases h2
    · by_cases h2 : (((bs t)[i]).toNat : Int) > 57
      · refine ⟨(0, false), Ev.step (fun k => by rw [spec_l1Read.l0]) (Ev.pos (by omega) (Ev.pos (by omega) ?_)), fun n _ h3 _ => ?_⟩
        · rw [hb]; exact Ev.neg h1 (Ev.pos h2 (Ev.const rfl))
        · rw [drop_cons' _ i hlt] at h3
          simp only [Lib.decFrom, Lib.digitVal] at h3
          rw [if_neg (by omega)] at h3
          cases h3
      · have hm' : m * 10 + (((bs t)[i]).toNat - 48) < 10 ^ (i + 1) := by rw [Nat.pow_succ]; omega
        obtain ⟨r, e1, e2⟩ := ih (i + 1) (m * 10 + (((bs t)[i]).toNat - 48)) (by omega) (by omega) hm'
        refine ⟨r, Ev.step (fun k => by rw [spec_l1Read.l0]) (Ev.pos (by omega) (Ev.pos (by omega) ?_)), fun n h3 h4 h5 => e2 n h3 ?_ h5⟩
        · rw [hb]
          refine Ev.neg h1 (Ev.neg h2 ?_)
          rw [w64 (x := (i : Int) + 1) (by omega) (by omega), w64 (x := 10 * (m : Int)) (by omega) (by omega), w64 (by omega) (by omega), show (i : Int) + 1 = ((i + 1 : Nat) : Int) from by omega,
            show 10 * (m : Int) + (((((bs t)[i]).toNat : Int) - 48) % 256) = ((m * 10 + (((bs t)[i]).toNat - 48) : Nat) : Int) from by omega]
          exact e1
        · rw [drop_cons' _ i hlt] at h4
          simp only [Lib.decFrom, Lib.digitVal] at h4
          rw [if_pos (by omega)] at h4
          exact h4
theorem read_j1 (s t : ByteArray) (hs : t.size ≤ s.size) (hb : s.size ≤ 1073741824) : ∃ r, Ev (fun k => spec_l1Read.j1 k s t) r ∧ (∀ n : Nat, n ≤ 240 → t = s → (⟨(Lib.decDigits n).toArray⟩ : ByteArray) = s → r = ((n : Int), true)) := by
  by_cases h : 1 ≤ t.size ∧ t.size ≤ 6
  · obtain ⟨r, e1, e2⟩ := read_l0 s t h.2 _ 0 0 rfl (by omega) (by simp)
    refine ⟨r, Ev.step (fun k => by rw [spec_l1Read.j1]) (Ev.bindc (l1In_f _ _ _) (Ev.pos ?_ e1)), fun n _ h1 h2 => e2 n (by rw [h1]) ?_ h2⟩
    · rw [decide_eq_true (show (1 : Int) ≤ (t.size : Int) by omega), decide_eq_true (show (t.size : Int) ≤ 6 by omega)]; rfl
    · rw [h1, ← h2, List.drop_zero]
      have e : bs (⟨(Lib.decDigits n).toArray⟩ : ByteArray) = Lib.decDigits n := bs_mk _
      rw [e]; exact decFrom_digits n
  · refine ⟨(0, false), Ev.step (fun k => by rw [spec_l1Read.j1]) (Ev.bindc (l1In_f _ _ _) (Ev.neg ?_ (Ev.const rfl))), fun n hn h1 h2 => ?_⟩
    · simp only [Bool.and_eq_true, decide_eq_true_eq]; omega
    · exfalso
      apply h
      have h3 := digits_le3 n hn
      have h4 := digits_pos n
      rw [h1, ← h2, size_mk]; omega
theorem l1Read (s : ByteArray) (hb : s.size ≤ 1073741824) : ∃ r, Ev (fun k => spec_l1Read.f k s) r ∧ (∀ n : Nat, n ≤ 240 → (⟨(Lib.decDigits n).toArray⟩ : ByteArray) = s → r = ((n : Int), true)) := by
  unfold spec_l1Read.f
  have hl := bs_size s
  by_cases h : (s.size : Int) > 1
  · have hb0 : bt s 0 = (((bs s)[0]'(by omega)).toNat : Int) := bt_bs s 0 (by omega)
    by_cases h1 : (bt s 0 == 45) = true
    · obtain ⟨r, e1, _⟩ := read_j1 s (s.extract 1 s.size) (by rw [ByteArray.size_extract]; omega) hb
      refine ⟨r, Ev.pos h (Ev.pos (by omega) (Ev.step (fun k => by rw [spec_l1Read.j0]) (Ev.pos h1 (Ev.pos (by omega) e1)))), fun n hn h2 => ?_⟩
      exfalso
      rw [hb0] at h1
      have hm := digits_all n ((bs s)[0]'(by omega)) (by
        have e : bs s = Lib.decDigits n := by rw [← h2]; exact bs_mk _
        rw [← e]; exact List.getElem_mem _)
      have h3 := beq_iff_eq.1 h1
      omega
    · obtain ⟨r, e1, e2⟩ := read_j1 s s (Nat.le_refl _) hb
      exact ⟨r, Ev.pos h (Ev.pos (by omega) (Ev.step (fun k => by rw [spec_l1Read.j0]) (Ev.neg h1 e1))), fun n hn h2 => e2 n hn rfl h2⟩
  · obtain ⟨r, e1, e2⟩ := read_j1 s s (Nat.le_refl _) hb
    exact ⟨r, Ev.neg h (Ev.step (fun k => by rw [spec_l1Read.j0]) (Ev.neg (by simp) e1)), fun n hn h2 => e2 n hn rfl h2⟩
end Go.Proofs.YtgmmanppmjlclaaGreatDoor.Pure

/- The reference reads an archive's text: what it answers is an archive with that text, or nothing; and every archive's text is read. -/
namespace Go.Proofs.YtgmmanppmjlclaaGreatDoor.Pure
open Go.RowKit Go.Proofs.YtgmmanppmjlclaaGreatDoor.P Go.Proofs.YtgmmanppmjlclaaGreatDoorW.PrintWords Go.Proofs.YtgmmanppmjlclaaGreatDoorW.PrintLast
set_option linter.unusedVariables false
set_option linter.unusedSimpArgs false

/-! ### the text of an archive -/
def body (z : S26) : List UInt8 := bs z.f0 ++ 32 :: (Lib.decDigits z.f1.toNat ++ 32 :: bs z.f2)
def txt (l : List S26) : List UInt8 := l.flatMap fun z => body z ++ [10]
theorem ne_of_le {b c : UInt8} (h : c.toNat < b.toNat) : b ≠ c := by intro e; rw [e] at h; exact Nat.lt_irrefl _ h
theorem prod_parts {z : S26} (h : prodB z = true) : (∀ b ∈ bs z.f0, 97 ≤ b.toNat) ∧ (bs z.f0).length ≤ 8 ∧ 0 ≤ z.f1 ∧ z.f1 ≤ 240 ∧ z.f2.size ≤ 60 ∧ ∀ b ∈ bs z.f2, 32 ≤ b.toNat := by
  simp only [prodB, nameB, plainB, Bool.and_eq_true, decide_eq_true_eq, List.all_eq_true] at h
  obtain ⟨⟨h0, _, h1⟩, ⟨h2, h3⟩, h4, h5⟩ := h
  exact ⟨fun b hb => (h0 b hb).1, by omega, h2, h3, by omega, fun b hb => (h5 b hb).1⟩
theorem line_bs {z : S26} (h : 0 ≤ z.f1) : bs (archLine z) = body z ++ [10] := by
  obtain ⟨n, hn⟩ : ∃ n : Nat, z.f1 = n := ⟨z.f1.toNat, by omega⟩
  unfold archLine body
  rw [hn, itoa_n, Int.toNat_natCast]
  simp only [bs_append, bs_one]
  have e : bs (⟨(Lib.decDigits n).toArray⟩ : ByteArray) = Lib.decDigits n := bs_mk _
  rw [e]
  simp
theorem txt_take (l : List S26) (h : ∀ z ∈ l, 0 ≤ z.f1) : ∀ k, k ≤ l.length → bs (archUp l k) = txt (l.take k)
  | 0, _ => by simp [archUp, txt, bs_nil]
  | k + 1, hk => by
    have hlt : k < l.length := by omega
    have hrd : rd_T26 l ((k : Nat) : Int) = l[k] := rdP_lt l k hlt
    rw [archUp, hrd, bs_append, txt_take l h k (by omega), line_bs (h _ (List.getElem_mem hlt)), take_succ' l k hlt]
    unfold txt
    rw [List.flatMap_append]
    simp only [List.flatMap_cons, List.flatMap_nil, List.append_nil]
theorem arch_prod {l : List S26} (h : Arch l) : ∀ z ∈ l, prodB z = true := fun z hz => h.1.1 z hz
theorem txt_up {l : List S26} (h : Arch l) : bs (archUp l l.length) = txt l := by
  rw [txt_take l (fun z hz => (prod_parts (arch_prod h z hz)).2.2.1) l.length (Nat.le_refl _), List.take_length]
theorem body_no10 {z : S26} (h : prodB z = true) : ∀ b ∈ body z, b ≠ 10 := by
  obtain ⟨h1, _, _, _, _, h2⟩ := prod_parts h
  intro b hb
  unfold body at hb
  simp only [List.mem_append, List.mem_cons] at hb
  rcases hb with hb | rfl | hb | rfl | hb
  · exact ne_of_le (Nat.lt_of_lt_of_le (by decide) (h1 b hb))
  · decide
  · exact ne_of_le (Nat.lt_of_lt_of_le (by decide) (digits_all _ b hb).1)
  · decide
  · exact ne_of_le (Nat.lt_of_lt_of_le (by decide) (h2 b hb))
theorem body_len {z : S26} (h : prodB z = true) : (body z).length ≤ 73 := by
  obtain ⟨_, h1, h2, h3, h4, _⟩ := prod_parts h
  have h5 := digits_le3 z.f1.toNat (by omega)
  have h6 := bs_size z.f2
  unfold body
  simp only [List.length_append, List.length_cons]
  omega
theorem txt_len : ∀ (l : List S26), (∀ z ∈ l, prodB z = true) → (txt l).length ≤ 74 * l.length
  | [], _ => by simp [txt]
  | z :: l, h => by
    have ih := txt_len l fun y hy => h y (by simp [hy])
    have h1 := body_len (h z (by simp))
    simp only [txt, List.flatMap_cons, List.length_append, List.length_cons, List.length_nil] at ih ⊢
    omega
theorem txt_small {l : List S26} {s : ByteArray} (h : Arch l) (e : txt l = bs s) : s.size ≤ 1480 := by
  have h1 := txt_len l (arch_prod h)
  have h2 := h.2
  rw [e, bs_size] at h1
  omega
theorem cut1 {z : S26} (h : prodB z = true) : ∀ b ∈ bs z.f0, b ≠ 32 := fun b hb => ne_of_le (Nat.lt_of_lt_of_le (by decide) ((prod_parts h).1 b hb))
theorem cut2 (n : Nat) : ∀ b ∈ Lib.decDigits n, b ≠ 32 := fun b hb => ne_of_le (Nat.lt_of_lt_of_le (by decide) (digits_all _ b hb).1)

/-! ### its parts between newlines -/
def joinP : List ByteArray → List UInt8
  | [] => []
  | p :: t => match t with
    | [] => bs p
    | _ :: _ => bs p ++ 10 :: joinP t
theorem joinP_one (p : ByteArray) : joinP [p] = bs p := by simp [joinP]
theorem joinP_cons (p : ByteArray) : ∀ (t : List ByteArray), t ≠ [] → joinP (p :: t) = bs p ++ 10 :: joinP t
  | [], h => absurd rfl h
  | q :: t, _ => by rw [joinP]
def no10 (t : List ByteArray) : Prop := ∀ p ∈ t, ∀ b ∈ bs p, b ≠ 10
theorem joinP_inj : ∀ (P Q : List ByteArray), P ≠ [] → Q ≠ [] → no10 P → no10 Q → joinP P = joinP Q → P = Q
  | [], _, h, _, _, _, _ => absurd rfl h
  | _ :: _, [], _, h, _, _, _ => absurd rfl h
  | [p], [q], _, _, _, _, h => by rw [joinP_one, joinP_one] at h; rw [bs_inj h]
  | [p], q :: q2 :: r, _, _, hp, _, h => by
    rw [joinP_one, joinP_cons q _ (by simp)] at h
    exact absurd rfl (hp p (by simp) 10 (by rw [h]; simp))
  | p :: p2 :: r, [q], _, _, _, hq, h => by
    rw [joinP_one, joinP_cons p _ (by simp)] at h
    exact absurd rfl (hq q (by simp) 10 (by rw [← h]; simp))
  | p :: p2 :: r, q :: q2 :: r', _, _, hp, hq, h => by
    rw [joinP_cons p _ (by simp), joinP_cons q _ (by simp)] at h
    obtain ⟨e1, e2⟩ := span_inj (hp p (by simp)) (hq q (by simp)) h
    rw [bs_inj e1, joinP_inj (p2 :: r) (q2 :: r') (by simp) (by simp) (fun x hx => hp x (by simp at hx ⊢; exact .inr hx)) (fun x hx => hq x (by simp at hx ⊢; exact .inr hx)) e2]
def partsOf (l : List S26) : List ByteArray := l.map (fun z => (⟨(body z).toArray⟩ : ByteArray)) ++ [⟨#[]⟩]
theorem partsOf_ne (l : List S26) : partsOf l ≠ [] := by simp [partsOf]
theorem joinP_parts : ∀ l : List S26, joinP (partsOf l) = txt l
  | [] => by simp [partsOf, joinP_one, txt, bs_nil]
  | z :: l => by
    have e : partsOf (z :: l) = (⟨(body z).toArray⟩ : ByteArray) :: partsOf l := rfl
    have e2 : bs (⟨(body z).toArray⟩ : ByteArray) = body z := bs_mk _
    rw [e, joinP_cons _ _ (partsOf_ne l), joinP_parts l, e2]
    simp [txt]
theorem parts_no10 {l : List S26} (h : ∀ z ∈ l, prodB z = true) : no10 (partsOf l) := by
  intro p hp b hb
  unfold partsOf at hp
  rcases List.mem_append.1 hp with h1 | h1
  · obtain ⟨z, hz, rfl⟩ := List.mem_map.1 h1
    have e2 : bs (⟨(body z).toArray⟩ : ByteArray) = body z := bs_mk _
    rw [e2] at hb
    exact body_no10 (h z hz) b hb
  · rw [List.mem_singleton.1 h1, bs_nil] at hb
    cases hb
theorem split_all (s : ByteArray) (hs : s.size ≤ 1073741824) : ∀ (d i f : Nat) (o : List ByteArray), s.size - i = d → i ≤ s.size → f ≤ i → o.length ≤ i → (∀ b ∈ ((bs s).drop f).take (i - f), b ≠ 10) →
    ∃ t : List ByteArray, t ≠ [] ∧ Ev (fun k => spec_l1Split.l0 k s 10 o (f : Int) (i : Int)) (o ++ t) ∧ joinP t = (bs s).drop f ∧ no10 t ∧ t.length ≤ d + 1 ∧ ∀ p ∈ t, p.size ≤ s.size := by
  have hl := bs_size s
  intro d
  induction d with
  | zero =>
    intro i f o hd hi hf ho hb
    have e : bs (s.extract f s.size) = (bs s).drop f := by rw [bs_extract]; exact List.take_of_length_le (by simp; omega)
    refine ⟨[s.extract f s.size], by simp, Ev.step (fun k => by rw [spec_l1Split.l0]) ?_, by rw [joinP_one, e], fun p hp => ?_, by simp, fun p hp => ?_⟩
    · exact Ev.neg (by omega) (Ev.pos (by omega) (Ev.pos (by omega) (Ev.pos (by omega) (Ev.const (by rw [Int.toNat_natCast])))))
    · rw [List.mem_singleton.1 hp, e]
      intro b hb2
      refine hb b ?_
      rw [List.take_of_length_le (by simp; omega)]
      exact hb2
    · rw [List.mem_singleton.1 hp, ByteArray.size_extract]; omega
  | succ d ih =>
    intro i f o hd hi hf ho hb
    have hlt : i < (bs s).length := by omega
    have hbt := bt_bs s i hlt
    have hdrop : ((bs s).drop f).drop (i - f) = (bs s)[i] :: (bs s).drop (i + 1) := by
      rw [List.drop_drop, show f + (i - f) = i by omega]; exact drop_cons' _ i hlt
    have hcut : (bs s).drop f = ((bs s).drop f).take (i - f) ++ (bs s)[i] :: (bs s).drop (i + 1) := by
      rw [← hdrop, List.take_append_drop]
    by_cases hx : bt s (i : Int) = 10
    · obtain ⟨t, ht, e, hj, hn, htl, hsz⟩ := ih (i + 1) (i + 1) (o ++ [s.extract f i]) (by omega) (by omega) (by omega) (by simp; omega) (fun b hb => by simp at hb)
      have e2 : bs (s.extract f i) = ((bs s).drop f).take (i - f) := bs_extract _ _ _
      have h10 : (bs s)[i] = 10 := UInt8.toNat_inj.mp (by have : (10 : UInt8).toNat = 10 := rfl; omega)
      refine ⟨s.extract f i :: t, by simp, Ev.step (fun k => by rw [spec_l1Split.l0]) ?_, ?_, fun p hp => ?_, by simp; omega, fun p hp => ?_⟩
      · refine Ev.pos (by omega) (Ev.pos (by omega) (Ev.pos hx (Ev.pos (by omega) (Ev.pos (by omega) (Ev.pos (by omega) (Ev.pos (by omega) ?_))))))
        rw [w64 (by omega) (by omega), Int.toNat_natCast, Int.toNat_natCast, show (i : Int) + 1 = ((i + 1 : Nat) : Int) from by omega]
        exact Ev.eq e (by simp)
      · rw [joinP_cons _ _ ht, hj, e2, ← h10, ← hcut]
      · rcases List.mem_cons.1 hp with rfl | hp
        · rw [e2]; exact hb
        · exact hn p hp
      · rcases List.mem_cons.1 hp with rfl | hp
        · rw [ByteArray.size_extract]; omega
        · exact hsz p hp
    · obtain ⟨t, ht, e, hj, hn, htl, hsz⟩ := ih (i + 1) f o (by omega) (by omega) (by omega) (by omega) (fun b hb2 => by
        have e3 : ((bs s).drop f).take (i + 1 - f) = ((bs s).drop f).take (i - f) ++ [(bs s)[i]] := by
          rw [show i + 1 - f = (i - f) + 1 by omega, take_succ' _ (i - f) (by simp; omega)]
          congr 2
          rw [List.getElem_drop]
          congr 1
          omega
        rw [e3] at hb2
        rcases List.mem_append.1 hb2 with h1 | h1
        · exact hb b h1
        · rw [List.mem_singleton.1 h1]
          intro e
          rw [hbt, e] at hx
          exact hx rfl)
      refine ⟨t, ht, Ev.step (fun k => by rw [spec_l1Split.l0]) ?_, hj, hn, by omega, hsz⟩
      refine Ev.pos (by omega) (Ev.pos (by omega) (Ev.neg hx ?_))
      rw [w64 (by omega) (by omega), show (i : Int) + 1 = ((i + 1 : Nat) : Int) from by omega]
      exact e

/-! ### a cut at the first space -/
theorem cut_l0 (x : ByteArray) (hx : x.size ≤ 1073741824) : ∀ (d i : Nat), x.size - i = d → i ≤ x.size → (∀ b ∈ (bs x).take i, b ≠ 32) →
    ∃ r, Ev (fun k => spec_l16Cut.l0 k x ⟨#[32]⟩ (i : Int)) r ∧ r.1.size ≤ x.size ∧ r.2.1.size ≤ x.size ∧ ∀ a t, bs x = a ++ 32 :: t → (∀ b ∈ a, b ≠ 32) → r = ((⟨a.toArray⟩ : ByteArray), (⟨t.toArray⟩ : ByteArray), true) := by
  have hl := bs_size x
  have h1 : ((⟨#[32]⟩ : ByteArray).size : Int) = 1 := rfl
  intro d
  induction d with
  | zero =>
    intro i hd hi hb
    refine ⟨(x, ⟨#[]⟩, false), Ev.step (fun k => by rw [spec_l16Cut.l0]) ?_, Nat.le_refl _, Nat.zero_le _, fun a t e ha => ?_⟩
    · rw [h1, w64 (by omega) (by omega)]
      exact Ev.neg (by omega) (Ev.const rfl)
    · rw [List.take_of_length_le (by omega), e] at hb
      exact absurd rfl (hb 32 (by simp))
  | succ d ih =>
    intro i hd hi hb
    have hlt : i < (bs x).length := by omega
    have hcut : bs x = (bs x).take i ++ (bs x)[i] :: (bs x).drop (i + 1) := by rw [← drop_cons' _ i hlt, List.take_append_drop]
    have e1 : bs (x.extract i (i + 1)) = [(bs x)[i]] := by
      rw [bs_extract, drop_cons' _ i hlt, show i + 1 - i = 1 by omega]; rfl
    by_cases h32 : (bs x)[i] = 32
    · refine ⟨(x.extract 0 i, x.extract (i + 1) x.size, true), Ev.step (fun k => by rw [spec_l16Cut.l0]) ?_, by rw [ByteArray.size_extract]; omega, by rw [ByteArray.size_extract]; omega, fun a t e ha => ?_⟩
      · rw [h1, w64 (by omega) (by omega)]
        refine Ev.pos (by omega) (Ev.pos (by omega) (Ev.pos (by omega) (Ev.pos ?_ (Ev.pos (by omega) (Ev.pos (by omega) (Ev.const ?_))))))
        · rw [show ((i : Int) + 1).toNat = i + 1 from by omega, Int.toNat_natCast, toList_bs, toList_bs, e1, h32, bs_one]
        · rw [show ((i : Int) + 1).toNat = i + 1 from by omega, Int.toNat_natCast]
      · rw [h32] at hcut
        obtain ⟨ea, et⟩ := span_inj hb ha (hcut.symm.trans e)
        have f1 : x.extract 0 i = ⟨a.toArray⟩ := bs_inj (by rw [bs_extract, bs_mk a, ← ea]; simp)
        have f2 : x.extract (i + 1) x.size = ⟨t.toArray⟩ := bs_inj (by rw [bs_extract, bs_mk t, ← et]; exact List.take_of_length_le (by simp; omega))
        rw [f1, f2]
    · obtain ⟨r, e, hr1, hr2, hr3⟩ := ih (i + 1) (by omega) (by omega) (fun b hb2 => by
        rw [take_succ' _ i hlt] at hb2
        rcases List.mem_append.1 hb2 with h | h
        · exact hb b h
        · rw [List.mem_singleton.1 h]; exact h32)
      refine ⟨r, Ev.step (fun k => by rw [spec_l16Cut.l0]) ?_, hr1, hr2, hr3⟩
      rw [h1, w64 (by omega) (by omega)]
      refine Ev.pos (by omega) (Ev.pos (by omega) (Ev.pos (by omega) (Ev.neg ?_ ?_)))
      · rw [show ((i : Int) + 1).toNat = i + 1 from by omega, Int.toNat_natCast, toList_bs, toList_bs, e1, bs_one]
        intro h
        exact h32 (List.cons.inj h).1
      · exact e
theorem cutS (x : ByteArray) (hx : x.size ≤ 1073741824) : ∃ r, Ev (fun k => spec_l16Cut.f k x ⟨#[32]⟩) r ∧ r.1.size ≤ x.size ∧ r.2.1.size ≤ x.size ∧ ∀ a t, bs x = a ++ 32 :: t → (∀ b ∈ a, b ≠ 32) → r = ((⟨a.toArray⟩ : ByteArray), (⟨t.toArray⟩ : ByteArray), true) :=
  cut_l0 x hx _ 0 rfl (by omega) (by simp)
end Go.Proofs.YtgmmanppmjlclaaGreatDoor.Pure

/- The reference's ParseArchive. -/
namespace Go.Proofs.YtgmmanppmjlclaaGreatDoor.Pure
open Go.RowKit Go.Proofs.YtgmmanppmjlclaaGreatDoor.P Go.Proofs.YtgmmanppmjlclaaGreatDoorW.PrintWords Go.Proofs.YtgmmanppmjlclaaGreatDoorW.PrintLast
set_option linter.unusedVariables false
set_option linter.unusedSimpArgs false

theorem rdL_lt (l : List ByteArray) (i : Nat) (h : i < l.length) : rdOf ByteArray.empty l (i : Int) = l[i] := by simp [rdOf, h]
/-- What a reading of the text s may answer: nothing, or an archive with this text. -/
def Good (s : ByteArray) (r : List S26 × Bool) : Prop := r = ([], false) ∨ (r.2 = true ∧ Arch r.1 ∧ txt r.1 = bs s)
theorem parts_len (l : List S26) : (partsOf l).length = l.length + 1 := by simp [partsOf]
theorem parts_get (l : List S26) (i : Nat) (h : i < l.length) : (partsOf l)[i]'(by rw [parts_len]; omega) = ⟨(body l[i]).toArray⟩ := by
  unfold partsOf
  rw [List.getElem_append_left (by simpa using h), List.getElem_map]
/-- What the reference reads of an archive's own line. -/
theorem vals {z : S26} {x : ByteArray} (hz : prodB z = true) (hx : bs x = body z) {r1 r2 : ByteArray × ByteArray × Bool} {r3 : Int × Bool}
    (h1 : ∀ a t, bs x = a ++ 32 :: t → (∀ b ∈ a, b ≠ 32) → r1 = ((⟨a.toArray⟩ : ByteArray), (⟨t.toArray⟩ : ByteArray), true))
    (h2 : ∀ a t, bs r1.2.1 = a ++ 32 :: t → (∀ b ∈ a, b ≠ 32) → r2 = ((⟨a.toArray⟩ : ByteArray), (⟨t.toArray⟩ : ByteArray), true))
    (h3 : ∀ n : Nat, n ≤ 240 → (⟨(Lib.decDigits n).toArray⟩ : ByteArray) = r2.1 → r3 = ((n : Int), true)) :
    r1.2.2 = true ∧ r2.2.2 = true ∧ r3.2 = true ∧ (⟨r1.1, r3.1, r2.2.1⟩ : S26) = z := by
  obtain ⟨z0, z1, z2⟩ := z
  obtain ⟨_, _, p1, p2, _, _⟩ := prod_parts hz
  simp only at p1 p2
  have e1 := h1 (bs z0) (Lib.decDigits z1.toNat ++ 32 :: bs z2) hx (cut1 hz)
  have e2 := h2 (Lib.decDigits z1.toNat) (bs z2) (by rw [e1]; exact bs_mk _) (cut2 _)
  have e3 := h3 z1.toNat (by omega) (by rw [e2])
  rw [e1, e2, e3]
  refine ⟨rfl, rfl, rfl, ?_⟩
  have f1 : (⟨(bs z0).toArray⟩ : ByteArray) = z0 := bs_inj (bs_mk _)
  have f2 : (⟨(bs z2).toArray⟩ : ByteArray) = z2 := bs_inj (bs_mk _)
  simp only
  rw [f1, f2, Int.toNat_of_nonneg p1]
theorem ps_l0 (s : ByteArray) (P : List ByteArray) (hP : ∀ p ∈ P, p.size ≤ 2000) (n : Nat) (hn : P.length = n + 1) (hn2 : n ≤ 2001) : ∀ (d i : Nat) (acc : List S26), n - i = d → i ≤ n → acc.length = i →
    (∀ z ∈ acc, z.f0.size ≤ 2000 ∧ z.f2.size ≤ 2000) →
    ∃ r, Ev (fun k => spec_ParseArchive.l0 k s acc P (i : Int)) r ∧ Good s r ∧ ∀ l, Arch l → txt l = bs s → P = partsOf l → acc = l.take i → r = (l, true) := by
  intro d
  induction d with
  | zero =>
    intro i acc hd hi ha hz
    have hA := att_spec acc ⟨by omega, fun z hz' => ⟨by have := (hz z hz').1; omega, by have := (hz z hz').2; omega⟩⟩
    unfold attT at hA
    have hl : ∀ l, P = partsOf l → acc = l.take i → acc = l := fun l h1 h2 => by
      have h3 := parts_len l
      rw [← h1] at h3
      rw [h2, List.take_of_length_le (by omega)]
    by_cases h : archB acc = true
    · rw [if_pos h] at hA
      have hAr := archB_true.1 h
      have hT := txt_up hAr
      by_cases he : (archUp acc acc.length).toList = s.toList
      · refine ⟨(acc, true), Ev.step (fun k => by rw [spec_ParseArchive.l0]) (Ev.neg (by rw [w64 (by omega) (by omega)]; omega) (Ev.bind hA (Ev.pos rfl (Ev.pos he (Ev.const rfl))))), .inr ⟨rfl, hAr, ?_⟩, fun l h1 h2 h3 h4 => by rw [hl l h3 h4]⟩
        rw [← hT, ← toList_bs, he, toList_bs]
      · refine ⟨([], false), Ev.step (fun k => by rw [spec_ParseArchive.l0]) (Ev.neg (by rw [w64 (by omega) (by omega)]; omega) (Ev.bind hA (Ev.pos rfl (Ev.neg he (Ev.const rfl))))), .inl rfl, fun l h1 h2 h3 h4 => ?_⟩
        refine absurd ?_ he
        rw [toList_bs, toList_bs, hT, hl l h3 h4, h2]
    · rw [if_neg h] at hA
      refine ⟨([], false), Ev.step (fun k => by rw [spec_ParseArchive.l0]) (Ev.neg (by rw [w64 (by omega) (by omega)]; omega) (Ev.bind hA (Ev.neg Bool.false_ne_true (Ev.const rfl)))), .inl rfl, fun l h1 h2 h3 h4 => ?_⟩
      exact absurd (archB_true.2 (by rw [hl l h3 h4]; exact h1)) h
  | succ d ih =>
    intro i acc hd hi ha hz
    have hlt : i < P.length := by omega
    have hrd := rdL_lt P i hlt
    have hx := hP _ (List.getElem_mem hlt)
    generalize hX : P[i] = x at hrd hx
    obtain ⟨r1, e1, s1, s1', v1⟩ := cutS x (by omega)
    obtain ⟨r2, e2, s2, s2', v2⟩ := cutS r1.2.1 (by omega)
    obtain ⟨r3, e3, v3⟩ := l1Read r2.1 (by omega)
    have hv : ∀ l, Arch l → P = partsOf l → r1.2.2 = true ∧ r2.2.2 = true ∧ r3.2 = true ∧ ∃ hi : i < l.length, (⟨r1.1, r3.1, r2.2.1⟩ : S26) = l[i] := fun l h1 h2 => by
      have h3 := parts_len l
      have hil : i < l.length := by rw [← h2] at h3; omega
      have h4 : x = ⟨(body l[i]).toArray⟩ := by rw [← hX, ← parts_get l i hil]; simp only [h2]
      obtain ⟨q1, q2, q3, q4⟩ := vals (arch_prod h1 _ (List.getElem_mem hil)) (by rw [h4]; exact bs_mk _) v1 v2 v3
      exact ⟨q1, q2, q3, hil, q4⟩
    by_cases b1 : r1.2.2 = true
    · by_cases b2 : r2.2.2 = true
      · by_cases b3 : r3.2 = true
        · obtain ⟨r, er, hg, hr⟩ := ih (i + 1) (acc ++ [⟨r1.1, r3.1, r2.2.1⟩]) (by omega) (by omega) (by simp [ha]) (fun z hz' => by
            rcases List.mem_append.1 hz' with h | h
            · exact hz z h
            · rw [List.mem_singleton.1 h]; exact ⟨show r1.1.size ≤ 2000 by omega, show r2.2.1.size ≤ 2000 by omega⟩)
          refine ⟨r, Ev.step (fun k => by rw [spec_ParseArchive.l0]) (Ev.pos (by rw [w64 (by omega) (by omega)]; omega) (Ev.pos (by omega) (Ev.pos (by omega) ?_))), hg, fun l h1 h2 h3 h4 => hr l h1 h2 h3 ?_⟩
          · rw [hrd, w64 (x := (i : Int) + 1) (by omega) (by omega), show (i : Int) + 1 = ((i + 1 : Nat) : Int) from by omega]
            exact Ev.bind e1 (Ev.bind e2 (Ev.bind e3 (Ev.pos b1 (Ev.pos b2 (Ev.pos b3 (Ev.pos (by omega) er))))))
          · obtain ⟨_, _, _, hil, q⟩ := hv l h1 h3
            rw [take_succ' l i hil, ← h4, q]
        · refine ⟨([], false), Ev.step (fun k => by rw [spec_ParseArchive.l0]) (Ev.pos (by rw [w64 (by omega) (by omega)]; omega) (Ev.pos (by omega) (Ev.pos (by omega) ?_))), .inl rfl, fun l h1 h2 h3 h4 => absurd (hv l h1 h3).2.2.1 b3⟩
          rw [hrd]
          exact Ev.bind e1 (Ev.bind e2 (Ev.bind e3 (Ev.pos b1 (Ev.pos b2 (Ev.neg b3 (Ev.const rfl))))))
      · refine ⟨([], false), Ev.step (fun k => by rw [spec_ParseArchive.l0]) (Ev.pos (by rw [w64 (by omega) (by omega)]; omega) (Ev.pos (by omega) (Ev.pos (by omega) ?_))), .inl rfl, fun l h1 h2 h3 h4 => absurd (hv l h1 h3).2.1 b2⟩
        rw [hrd]
        exact Ev.bind e1 (Ev.bind e2 (Ev.bind e3 (Ev.pos b1 (Ev.neg b2 (Ev.const rfl)))))
    · refine ⟨([], false), Ev.step (fun k => by rw [spec_ParseArchive.l0]) (Ev.pos (by rw [w64 (by omega) (by omega)]; omega) (Ev.pos (by omega) (Ev.pos (by omega) ?_))), .inl rfl, fun l h1 h2 h3 h4 => absurd (hv l h1 h3).1 b1⟩
      rw [hrd]
      exact Ev.bind e1 (Ev.bind e2 (Ev.bind e3 (Ev.neg b1 (Ev.const rfl))))
theorem parse_spec (s : ByteArray) (hs : s.size ≤ 1073741824) : ∃ r, Ev (fun k => spec_ParseArchive.f k s) r ∧ Good s r ∧ ∀ l, Arch l → txt l = bs s → r = (l, true) := by
  obtain ⟨P, hne, eP, hj, hno, hlen, hsz⟩ := split_all s hs _ 0 0 [] rfl (by omega) (by omega) (by simp) (by simp)
  rw [List.drop_zero] at hj
  have hpl : 1 ≤ P.length := by cases P with
    | nil => exact absurd rfl hne
    | cons => simp
  have eP' : Ev (fun k => spec_l1Split.f k s 10) P := eP
  have hPl : ∀ l, Arch l → txt l = bs s → P = partsOf l := fun l h1 h2 => joinP_inj P (partsOf l) hne (partsOf_ne l) hno (parts_no10 (arch_prod h1)) (by rw [hj, joinP_parts, h2])
  unfold spec_ParseArchive.f
  by_cases h : (s.size : Int) > 2000
  · refine ⟨([], false), Ev.bindc rfl (Ev.bind eP' (Ev.pos h (Ev.step (fun k => by rw [spec_ParseArchive.j0]) (Ev.pos rfl (Ev.const rfl))))), .inl rfl, fun l h1 h2 => ?_⟩
    have := txt_small h1 h2
    omega
  · have hw : wrap64 ((P.length : Int) - 1) = ((P.length - 1 : Nat) : Int) := by rw [w64 (by omega) (by omega)]; omega
    have hlt : P.length - 1 < P.length := by omega
    have hrd := rdL_lt P (P.length - 1) hlt
    by_cases hl : (P[P.length - 1]).toList = []
    · obtain ⟨r, e, hg, hr⟩ := ps_l0 s P (fun p hp => by have := hsz p hp; omega) (P.length - 1) (by omega) (by omega) _ 0 [] rfl (by omega) rfl (by simp)
      refine ⟨r, Ev.bindc rfl (Ev.bind eP' (Ev.neg h (Ev.pos (by omega) (Ev.pos (by omega) ?_)))), hg, fun l h1 h2 => hr l h1 h2 (hPl l h1 h2) (by simp)⟩
      rw [hw, hrd]
      have e' : Ev (fun k => spec_ParseArchive.l0 k s [] P 0) r := e
      exact Ev.step (fun k => by rw [spec_ParseArchive.j0]) (Ev.neg (by rw [hl]; decide) e')
    · refine ⟨([], false), Ev.bindc rfl (Ev.bind eP' (Ev.neg h (Ev.pos (by omega) (Ev.pos (by omega) ?_)))), .inl rfl, fun l h1 h2 => ?_⟩
      · rw [hw, hrd]
        exact Ev.step (fun k => by rw [spec_ParseArchive.j0]) (Ev.pos (by rw [bne_iff_ne]; exact hl) (Ev.const rfl))
      · have h3 := hPl l h1 h2
        refine absurd ?_ hl
        have h4 : P[P.length - 1]? = some ⟨#[]⟩ := by
          rw [h3]
          unfold partsOf
          simp
        rw [List.getElem?_eq_getElem hlt] at h4
        rw [Option.some.inj h4, toList_bs, bs_nil]
end Go.Proofs.YtgmmanppmjlclaaGreatDoor.Pure

/- The program's ParseArchive. -/
namespace Go.Proofs.YtgmmanppmjlclaaGreatDoor.Pure
open Go.RowKit Go.Proofs.YtgmmanppmjlclaaGreatDoor.P Go.Proofs.YtgmmanppmjlclaaGreatDoorW.PrintWords Go.Proofs.YtgmmanppmjlclaaGreatDoorW.PrintLast
set_option linter.unusedVariables false
set_option linter.unusedSimpArgs false

theorem trim_any (x : ByteArray) (hx : x.size ≤ 1073741824) : ∃ t, strings_TrimSuffix.f x ⟨#[10]⟩ = some t ∧ t.size ≤ x.size ∧ ∀ a, bs x = a ++ [10] → t = ⟨a.toArray⟩ := by
  have hl := bs_size x
  have h1 : ((⟨#[10]⟩ : ByteArray).size : Int) = 1 := rfl
  unfold strings_TrimSuffix.f stringslite_TrimSuffix.f stringslite_HasSuffix.f
  rw [h1]
  by_cases h : (x.size : Int) ≥ 1
  · rw [if_pos h, w64 (by omega) (by omega), if_pos (by omega), if_pos (by omega)]
    simp only [Option.bind_some]
    by_cases he : ((x.extract ((x.size : Int) - 1).toNat x.size).toList == (⟨#[10]⟩ : ByteArray).toList) = true
    · rw [if_pos he, if_pos (by omega), if_pos (by omega)]
      refine ⟨_, rfl, by rw [ByteArray.size_extract]; omega, fun a e => ?_⟩
      have e2 : (bs x).length = a.length + 1 := by rw [e]; simp
      apply bs_inj
      rw [bs_extract, bs_mk a, e, show ((x.size : Int) - 1).toNat = a.length from by omega]
      simp
    · rw [if_neg he]
      refine ⟨_, rfl, Nat.le_refl _, fun a e => absurd ?_ he⟩
      have e2 : (bs x).length = a.length + 1 := by rw [e]; simp
      rw [beq_iff_eq, toList_bs, toList_bs, bs_extract, e, show ((x.size : Int) - 1).toNat = a.length from by omega, bs_one, List.drop_left]
      exact List.take_of_length_le (by simp; omega)
  · rw [if_neg h]
    simp only [Option.bind_some]
    rw [if_neg (by simp)]
    refine ⟨_, rfl, Nat.le_refl _, fun a e => ?_⟩
    have e2 : (bs x).length = a.length + 1 := by rw [e]; simp
    omega
theorem cut_any (x : ByteArray) (hx : x.size ≤ 1073741824) : ∃ r, strings_Cut.f x ⟨#[32]⟩ = some r ∧ r.1.size ≤ x.size ∧ r.2.1.size ≤ x.size ∧ ∀ a t, bs x = a ++ 32 :: t → (∀ b ∈ a, b ≠ 32) → r = ((⟨a.toArray⟩ : ByteArray), (⟨t.toArray⟩ : ByteArray), true) := by
  have hl := bs_size x
  by_cases h : (32 : UInt8) ∈ bs x
  · obtain ⟨a, t, e, ha⟩ := span_at 32 _ h
    have e2 : (bs x).length = a.length + t.length + 1 := by rw [e]; simp; omega
    refine ⟨_, cut_hit (by omega) e ha, by rw [size_mk a]; omega, by rw [size_mk t]; omega, fun a' t' e' ha' => ?_⟩
    obtain ⟨q1, q2⟩ := span_inj ha ha' (e.symm.trans e')
    rw [q1, q2]
  · refine ⟨_, cut_miss (fun b hb e => h (e ▸ hb)), Nat.le_refl _, Nat.zero_le _, fun a t e ha => absurd (by rw [e]; simp) h⟩
theorem step_any (x : ByteArray) (hx : x.size ≤ 4000) : ∃ r, paStep x = some r ∧ (∀ p, r = some p → p.f0.size ≤ 4000 ∧ p.f2.size ≤ 4000) ∧ ∀ z, prodB z = true → bs x = body z ++ [10] → r = some z := by
  obtain ⟨t, e0, s0, v0⟩ := trim_any x (by omega)
  obtain ⟨r1, e1, s1, s1', v1⟩ := cut_any t (by omega)
  obtain ⟨r2, e2, s2, s2', v2⟩ := cut_any r1.2.1 (by omega)
  obtain ⟨r3, e3⟩ := parseInt_some r2.1 (by omega)
  refine ⟨if r3.2 = true then some ⟨r1.1, r3.1, r2.2.1⟩ else none, ?_, fun p hp => ?_, fun z hz hb => ?_⟩
  · unfold paStep
    rw [e0]; simp only [Option.bind_some]
    rw [e1]; simp only [Option.bind_some]
    rw [e2]; simp only [Option.bind_some]
    rw [e3]; simp only [Option.bind_some]
  · by_cases hb : r3.2 = true
    · rw [if_pos hb] at hp
      rw [← Option.some.inj hp]
      exact ⟨show r1.1.size ≤ 4000 by omega, show r2.2.1.size ≤ 4000 by omega⟩
    · rw [if_neg hb] at hp; cases hp
  · have ht := v0 _ hb
    obtain ⟨_, _, q3, q4⟩ := vals (r3 := r3) hz (x := t) (by rw [ht]; exact bs_mk _) v1 v2 (fun n hn e => by
      rw [← e, parseInt_digits n hn] at e3
      exact (Option.some.inj e3).symm)
    rw [if_pos q3, q4]
theorem lnK_size : ∀ (k : Nat) (s x : ByteArray), x ∈ lnK k s → x.size ≤ s.size
  | 0, _, _, h => by simp [lnK] at h
  | k + 1, s, x, h => by
    have hh : (lnHead s).size ≤ s.size := by unfold lnHead; split <;> simp [ByteArray.size_extract] <;> omega
    rw [lnK] at h
    split at h
    · rename_i hp
      rcases List.mem_cons.1 h with rfl | h1
      · exact hh
      · exact Nat.le_trans (lnK_size k _ _ h1) (Nat.le_of_lt (lnTail_size s hp))
    · cases h
theorem lnK_line {z : S26} {s : ByteArray} {t : List UInt8} (hz : prodB z = true) (h : bs s = (body z ++ [10]) ++ t) : 0 < s.size ∧ lnHead s = ⟨(body z ++ [10]).toArray⟩ ∧ bs (lnTail s) = t := by
  have hl := bs_size s
  have h' : bs s = body z ++ 10 :: t := by rw [h]; simp
  have e : lnEnd s = ((body z).length : Int) := by
    unfold lnEnd
    rw [show s.data.toList = bs s from rfl, h']
    exact indexByte_hit 10 _ _ (body_no10 hz)
  have e2 : (bs s).length = (body z).length + t.length + 1 := by rw [h']; simp; omega
  refine ⟨by omega, ?_, ?_⟩
  · unfold lnHead
    rw [e, if_pos (by omega)]
    apply bs_inj
    rw [bs_extract, bs_mk (body z ++ [10]), h, show (((body z).length : Int) + 1).toNat = (body z ++ [10]).length from by simp, Nat.sub_zero, List.drop_zero, List.take_left]
  · unfold lnTail
    rw [e, if_pos (by omega), bs_extract, h, show (((body z).length : Int) + 1).toNat = (body z ++ [10]).length from by simp, List.drop_left]
    exact List.take_of_length_le (by simp; omega)
theorem lnK_txt : ∀ (l : List S26) (k : Nat) (s : ByteArray), (∀ z ∈ l, prodB z = true) → s.size ≤ k → bs s = txt l → (lnK k s).map bs = l.map fun z => body z ++ [10]
  | [], k, s, _, hk, h => by
    have hl := bs_size s
    have h0 : s.size = 0 := by rw [← hl, h]; simp [txt]
    cases k with
    | zero => simp [lnK]
    | succ k => simp [lnK, h0]
  | z :: l, k, s, hz, hk, h => by
    have h' : bs s = (body z ++ [10]) ++ txt l := by rw [h]; simp [txt]
    obtain ⟨h0, h1, h2⟩ := lnK_line (hz z (by simp)) h'
    cases k with
    | zero => omega
    | succ k =>
      rw [lnK, if_pos h0, List.map_cons, List.map_cons, lnK_txt l k (lnTail s) (fun y hy => hz y (by simp [hy])) (by have := lnTail_size s h0; omega) h2, h1]
      congr 1
      all_goals exact bs_mk _
theorem fold_txt : ∀ (l : List S26) (L : List ByteArray) (acc : List S26), (∀ z ∈ l, prodB z = true) → (∀ x ∈ L, x.size ≤ 4000) → L.map bs = l.map (fun z => body z ++ [10]) → paFold L acc = some (acc ++ l)
  | [], L, acc, _, _, h => by
    have e : L = [] := by simpa using h
    rw [e, paFold]; simp
  | z :: l, [], acc, _, _, h => by simp at h
  | z :: l, x :: L, acc, hz, hL, h => by
    rw [List.map_cons, List.map_cons] at h
    obtain ⟨h1, h2⟩ := List.cons.inj h
    obtain ⟨r, e, _, v⟩ := step_any x (hL x (by simp))
    have ev := v z (hz z (by simp)) h1
    rw [paFold, e, ev]
    simp only
    rw [fold_txt l L _ (fun y hy => hz y (by simp [hy])) (fun y hy => hL y (by simp [hy])) h2]
    simp
theorem fold_sized : ∀ (L : List ByteArray) (acc r : List S26), (∀ x ∈ L, x.size ≤ 4000) → (∀ z ∈ acc, z.f0.size ≤ 4000 ∧ z.f2.size ≤ 4000) → paFold L acc = some r → r.length = acc.length + L.length ∧ ∀ z ∈ r, z.f0.size ≤ 4000 ∧ z.f2.size ≤ 4000
  | [], acc, r, _, ha, h => by
    rw [paFold] at h
    rw [← Option.some.inj h]
    exact ⟨by simp, ha⟩
  | x :: L, acc, r, hL, ha, h => by
    obtain ⟨q, e, s, _⟩ := step_any x (hL x (by simp))
    rw [paFold, e] at h
    cases q with
    | none => cases h
    | some p =>
      have hs := s p rfl
      obtain ⟨h1, h2⟩ := fold_sized L (acc ++ [p]) r (fun y hy => hL y (by simp [hy])) (fun z hz => by
        rcases List.mem_append.1 hz with h | h
        · exact ha z h
        · rw [List.mem_singleton.1 h]; exact hs) h
      exact ⟨by rw [h1]; simp; omega, h2⟩
theorem lnS_len (s : ByteArray) : (lnS s).length ≤ s.size := lnK_len _ _
theorem parse_impl (s : ByteArray) : ∃ r, Ev (fun k => impl_ParseArchive.f k s) r ∧ Good s r ∧ ∀ l, Arch l → txt l = bs s → r = (l, true) := by
  unfold impl_ParseArchive.f
  by_cases h : s.size > 4000
  · refine ⟨([], false), Ev.pos h (Ev.const rfl), .inl rfl, fun l h1 h2 => ?_⟩
    have := txt_small h1 h2
    omega
  · have hL : ∀ x ∈ lnS s, x.size ≤ 4000 := fun x hx => by have := lnK_size _ s x hx; omega
    have hall : (lnS s).all (fun x => (paStep x).isSome) = true := List.all_eq_true.2 fun x hx => by
      obtain ⟨r, e, _⟩ := step_any x (hL x hx)
      rw [e]; rfl
    have hfold : ∀ l, Arch l → txt l = bs s → paFold (lnS s) [] = some l := fun l h1 h2 => by
      have := fold_txt l (lnS s) [] (arch_prod h1) hL (lnK_txt l _ s (arch_prod h1) (Nat.le_refl _) h2.symm)
      simpa using this
    cases hf : paFold (lnS s) [] with
    | none =>
      refine ⟨([], false), Ev.neg h (Ev.pos hall (Ev.const rfl)), .inl rfl, fun l h1 h2 => ?_⟩
      rw [hfold l h1 h2] at hf
      cases hf
    | some l' =>
      obtain ⟨hlen, hsz⟩ := fold_sized (lnS s) [] l' hL (by simp) hf
      have hn := lnS_len s
      have hs : Sized l' := ⟨by simp at hlen; omega, fun z hz => ⟨by have := (hsz z hz).1; omega, by have := (hsz z hz).2; omega⟩⟩
      have hv := isArchive l' hs
      have hl : ∀ l, Arch l → txt l = bs s → l' = l := fun l h1 h2 => by
        rw [hfold l h1 h2] at hf
        exact (Option.some.inj hf).symm
      by_cases hb : archB l' = true
      · have hAr := archB_true.1 hb
        have hT := txt_up hAr
        have e : impl_archiveText.f l' = some (archUp l' l'.length) := by
          unfold impl_archiveText.f
          rw [if_pos (by rw [arch_z hAr, decide_eq_true (Nat.le_trans hAr.2 (by decide))]; rfl)]
        rw [hb] at hv
        by_cases he : ((archUp l' l'.length).toList == s.toList) = true
        · refine ⟨(l', true), Ev.neg h (Ev.pos hall (Ev.bind hv (Ev.pos rfl (Ev.bindc e (Ev.pos he (Ev.const rfl)))))), .inr ⟨rfl, hAr, ?_⟩, fun l h1 h2 => by rw [hl l h1 h2]⟩
          rw [← hT, ← toList_bs, beq_iff_eq.1 he, toList_bs]
        · refine ⟨([], false), Ev.neg h (Ev.pos hall (Ev.bind hv (Ev.pos rfl (Ev.bindc e (Ev.neg he (Ev.const rfl)))))), .inl rfl, fun l h1 h2 => absurd ?_ he⟩
          rw [beq_iff_eq, toList_bs, toList_bs, hT, hl l h1 h2, h2]
      · refine ⟨([], false), Ev.neg h (Ev.pos hall (Ev.bind hv (Ev.neg hb (Ev.const rfl)))), .inl rfl, fun l h1 h2 => absurd (archB_true.2 ?_) hb⟩
        rw [hl l h1 h2]; exact h1
/-- Both answer the same. -/
theorem parse_both (s : ByteArray) (hs : s.size ≤ 1073741824) : ∃ r : List S26 × Bool, Ev (fun k => spec_ParseArchive.f k s) r ∧ Ev (fun k => impl_ParseArchive.f k s) r ∧ r.1.length ≤ 20 := by
  obtain ⟨r, e, g, v⟩ := parse_spec s hs
  obtain ⟨r', e', g', v'⟩ := parse_impl s
  have hrr : r = r' := by
    rcases g with g | ⟨g1, g2, g3⟩
    · rcases g' with g' | ⟨g1', g2', g3'⟩
      · rw [g, g']
      · rw [v r'.1 g2' g3', ← g1']
    · rw [v' r.1 g2 g3, ← g1]
  refine ⟨r, e, hrr ▸ e', ?_⟩
  rcases g with g | ⟨g1, g2, g3⟩
  · rw [g]; simp
  · exact g2.2
end Go.Proofs.YtgmmanppmjlclaaGreatDoor.Pure

/- The laws' own comparisons of archives and texts. -/
namespace Go.Proofs.YtgmmanppmjlclaaGreatDoor.Pure
open Go.RowKit Go.Proofs.YtgmmanppmjlclaaGreatDoor.P Go.Proofs.YtgmmanppmjlclaaGreatDoorW.PrintWords Go.Proofs.YtgmmanppmjlclaaGreatDoorW.PrintLast
set_option linter.unusedVariables false

theorem rArchives_l0 (a : List S26) (hl : a.length ≤ 1048576) : ∀ (d i : Nat), a.length - i = d → i ≤ a.length → Ev (fun k => laws_rArchives.l0 k a a (i : Int)) true := by
  intro d
  induction d with
  | zero =>
    intro i hd hi
    refine Ev.step (fun k => by rw [laws_rArchives.l0]) ?_
    exact Ev.neg (by omega) (Ev.now _)
  | succ d ih =>
    intro i hd hi
    refine Ev.step (fun k => by rw [laws_rArchives.l0]) ?_
    refine Ev.pos (by omega) (Ev.pos (by omega) (Ev.pos (by omega) (Ev.neg (by simp) ?_)))
    rw [w64 (by omega) (by omega), show (i : Int) + 1 = ((i + 1 : Nat) : Int) from by omega]
    exact ih (i + 1) (by omega) (by omega)
theorem rArchives_refl (a : List S26) (hl : a.length ≤ 1048576) : Ev (fun k => laws_rArchives.f k a a) true := by
  unfold laws_rArchives.f
  exact Ev.pos rfl (rArchives_l0 a hl _ 0 rfl (by omega))
end Go.Proofs.YtgmmanppmjlclaaGreatDoor.Pure

/- The laws' own comparison of lists of numbers. -/
namespace Go.Proofs.YtgmmanppmjlclaaGreatDoor.Pure
open Go.RowKit Go.Proofs.YtgmmanppmjlclaaGreatDoor.P Go.Proofs.YtgmmanppmjlclaaGreatDoorW.PrintWords Go.Proofs.YtgmmanppmjlclaaGreatDoorW.PrintLast
set_option linter.unusedVariables false

theorem rInts_l0 (a : List Int) (hl : a.length ≤ 1048576) : ∀ (d i : Nat), a.length - i = d → i ≤ a.length → Ev (fun k => laws_rInts.l0 k a a (i : Int)) true := by
  intro d
  induction d with
  | zero =>
    intro i hd hi
    refine Ev.step (fun k => by rw [laws_rInts.l0]) ?_
    exact Ev.neg (by omega) (Ev.now _)
  | succ d ih =>
    intro i hd hi
    refine Ev.step (fun k => by rw [laws_rInts.l0]) ?_
    refine Ev.pos (by omega) (Ev.pos (by omega) (Ev.pos (by omega) (Ev.pos rfl ?_)))
    rw [w64 (by omega) (by omega), show (i : Int) + 1 = ((i + 1 : Nat) : Int) from by omega]
    exact ih (i + 1) (by omega) (by omega)
theorem rInts_refl (a : List Int) (hl : a.length ≤ 1048576) : Ev (fun k => laws_rInts.f k a a) true := by
  unfold laws_rInts.f
  exact Ev.pos rfl (rInts_l0 a hl _ 0 rfl (by omega))
end Go.Proofs.YtgmmanppmjlclaaGreatDoor.Pure

namespace Go.Proofs.YtgmmanppmjlclaaGreatDoor.Pure
open Go.RowKit Go.Proofs.YtgmmanppmjlclaaGreatDoor.P Go.Proofs.YtgmmanppmjlclaaGreatDoorW.PrintWords Go.Proofs.YtgmmanppmjlclaaGreatDoorW.PrintLast
set_option linter.unusedVariables false

theorem drawStore {l : List Int} (hc : Code l) : ∃ r b c d, Ev (fun k => spec_DrawStoreProduct.f k l) (r, b, c, d) ∧ Small r ∧ b.size ≤ 1000 ∧ d.size ≤ 1000 := by
  obtain ⟨r, a, s, e, hr, h⟩ := archive_ok hc (s := 0) at00 (by omega)
  obtain ⟨b, c, d, a1, s1, e1, g1, g2, h1⟩ := product_ok hc (s := s) h (by omega)
  refine ⟨r, b, c, d, ?_, hr, g1, g2⟩
  unfold spec_DrawStoreProduct.f
  exact Ev.bindc (b := (l, 0, 0)) rfl (Ev.bind e (Ev.bindc e1 (Ev.now _)))
theorem drawArch {l : List Int} (hc : Code l) : ∃ r, Ev (fun k => spec_DrawArchiveText.f k l) r ∧ Small r := by
  obtain ⟨r, a, s, e, hr, h⟩ := archive_ok hc (s := 0) at00 (by omega)
  refine ⟨r, ?_, hr⟩
  unfold spec_DrawArchiveText.f spec_DrawIsValidArchive.f
  exact Ev.bind (Ev.bindc (b := (l, 0, 0)) rfl (Ev.bind e (Ev.now _))) (Ev.now _)
theorem drawVersions {l : List Int} (hc : Code l) : ∃ r n, Ev (fun k => spec_DrawVersionsOf.f k l) (r, n) ∧ Small r ∧ n.size ≤ 1000 := by
  obtain ⟨r, a, s, e, hr, h⟩ := archive_ok hc (s := 0) at00 (by omega)
  obtain ⟨b, a1, s1, e1, g1, h1⟩ := name26_ok hc (s := s) h (by omega)
  refine ⟨r, b, ?_, hr, g1⟩
  unfold spec_DrawVersionsOf.f
  exact Ev.bindc (b := (l, 0, 0)) rfl (Ev.bind e (Ev.bindc e1 (Ev.now _)))
theorem attT_size (l : List S26) : (attT l).1.size ≤ 1480 := by
  unfold attT
  by_cases h : archB l = true
  · rw [if_pos h]
    exact txt_small (archB_true.1 h) (txt_up (archB_true.1 h)).symm
  · rw [if_neg h]; decide
theorem drawText {l : List Int} (hc : Code l) : ∃ t, Ev (fun k => spec_DrawParseArchive.f k l) t ∧ t.size ≤ 2000 := by
  obtain ⟨r, a, s, e, hr, h⟩ := archive_ok hc (s := 0) at00 (by omega)
  have ha := att_spec r hr.sized
  have hz := attT_size r
  obtain ⟨v, a1, s1, e1, h1⟩ := one_ok hc (s := s) h (by omega) 4 (by omega)
  cases v with
  | true =>
    obtain ⟨u, a2, s2, e2, g2, h2⟩ := spoilt_ok hc (s := s1) h1 (by omega) (attT r).1 ⟨#[32, 48, 97, 10]⟩ (by omega) (by decide) (by decide)
    refine ⟨u, ?_, by omega⟩
    unfold spec_DrawParseArchive.f
    exact Ev.bindc (b := (l, 0, 0)) rfl (Ev.bind e (Ev.bind ha (Ev.bindc e1 (Ev.pos rfl (Ev.bindc e2 (Ev.now _))))))
  | false =>
    refine ⟨(attT r).1, ?_, by omega⟩
    unfold spec_DrawParseArchive.f
    exact Ev.bindc (b := (l, 0, 0)) rfl (Ev.bind e (Ev.bind ha (Ev.bindc e1 (Ev.neg (by simp) (Ev.now _)))))
theorem has_l0 (x : Int) (a : List Int) (hl : a.length ≤ 1048576) : ∀ (d i : Nat), a.length - i = d → i ≤ a.length → x ∈ a.drop i → Ev (fun k => laws_rHas.l0 k a x (i : Int)) true := by
  intro d
  induction d with
  | zero =>
    intro i hd hi hx
    rw [List.drop_eq_nil_of_le (by omega)] at hx
    simp at hx
  | succ d ih =>
    intro i hd hi hx
    have hlt : i < a.length := by omega
    refine Ev.step (fun k => by rw [laws_rHas.l0]) ?_
    rw [rd_lt a i hlt, w64 (x := (i : Int) + 1) (by omega) (by omega), show (i : Int) + 1 = ((i + 1 : Nat) : Int) from by omega]
    rw [drop_cons' a i hlt] at hx
    refine Ev.pos (by omega) (Ev.pos (by omega) (Ev.cases (fun _ => Ev.now _) (fun h => ih (i + 1) (by omega) (by omega) ?_)))
    rcases List.mem_cons.1 hx with h1 | h1
    · exact absurd h1.symm h
    · exact h1
theorem has_ok (x : Int) (a : List Int) (hl : a.length ≤ 1048576) (hx : x ∈ a) : Ev (fun k => laws_rHas.f k a x) true := by
  unfold laws_rHas.f
  exact has_l0 x a hl _ 0 rfl (by omega) (by simpa using hx)
theorem verL_has {p : S26} : ∀ {l : List S26}, p ∈ l → p.f1 ∈ verL (bs p.f0) l
  | [], h => by simp at h
  | x :: xs, h => by
    simp only [verL]
    rcases List.mem_cons.1 h with rfl | h
    · rw [if_pos rfl]; simp
    · have := verL_has h
      split
      · simp [this]
      · exact this
theorem stoL_same {p : S26} : ∀ {l : List S26}, l.Pairwise pLt → p ∈ l → stoL p l = l
  | [], _, h => by simp at h
  | x :: xs, hp, h => by
    have hp2 := List.pairwise_cons.1 hp
    simp only [stoL]
    by_cases h1 : pLt x p
    · rw [if_pos h1]
      rcases List.mem_cons.1 h with rfl | h
      · exact absurd h1 (pLt_irrefl _)
      · rw [stoL_same hp2.2 h]
    · rw [if_neg h1]
      rcases List.mem_cons.1 h with rfl | h
      · rw [if_neg (pLt_irrefl _)]
      · exact absurd (hp2.1 p h) h1
theorem vp_has {p : S26} {l : List S26} (hp : l.Pairwise pLt) (h : p ∈ l) : vpOf p.f0 p.f1 l.reverse = (p, true) := by
  obtain ⟨xs, ys, rfl⟩ := List.append_of_mem h
  have h2 := (List.pairwise_append.1 hp).2.1
  have h3 := (List.pairwise_cons.1 h2).1
  rw [List.reverse_append, List.reverse_cons, List.append_assoc, List.singleton_append]
  refine vpOf_hit p.f0 p.f1 p _ _ (fun y hy => ?_) (by simp [vpHit])
  have h4 := h3 y (by simpa using hy)
  unfold vpHit
  refine decide_eq_false ?_
  rintro ⟨e1, e2⟩
  have e3 : bs y.f0 = bs p.f0 := by rw [← toList_bs, ← toList_bs, e1]
  rcases h4 with h4 | ⟨_, h4⟩
  · rw [e3] at h4; exact absurd h4 (List.lt_irrefl _)
  · omega
theorem FnProducts (l0 : List Int) (_ : l0.length ≤ maxLen) (hwf : ∀ x ∈ l0, (Lit.int .u8 x).wf = true) : ∃ k, laws_FnProducts.f k l0 = some true := by
  apply Ev.rounds
  have hc : Code l0 := code_of hwf
  have t4 : Ev (fun k => laws_FnProducts.j4 k l0 false) true := by
    obtain ⟨r, n, e, hr, hn⟩ := drawVersions hc
    have hl := verT_len r n
    refine Ev.step (fun k => by rw [laws_FnProducts.j4]) (Ev.neg (by simp) ?_)
    exact Ev.bind e (Ev.bind (ver_impl r n hr.sized (by omega)) (Ev.bind (ver_spec r n hr.sized (by omega)) (Ev.pos (by simp) (Ev.bind (rInts_refl _ (by omega)) (Ev.now _)))))
  have t3 : Ev (fun k => laws_FnProducts.j3 k l0 false) true := by
    obtain ⟨t, e, ht⟩ := drawText hc
    obtain ⟨⟨q0, q1⟩, sp, im, ql⟩ := parse_both t (by omega)
    simp only at ql
    refine Ev.step (fun k => by rw [laws_FnProducts.j3]) (Ev.neg (by simp) ?_)
    exact Ev.bind e (Ev.bind im (Ev.bind sp (Ev.neg (by simp) (Ev.bind (rArchives_refl q0 (by omega)) t4))))
  have t1 : Ev (fun k => laws_FnProducts.j1 k l0) true := by
    obtain ⟨c, e, hs⟩ := drawArch hc
    refine Ev.step (fun k => by rw [laws_FnProducts.j1]) ?_
    refine Ev.bind e (Ev.bind (att_impl c hs.sized) (Ev.bind (att_spec c hs.sized) (Ev.pos rfl ?_)))
    refine Ev.step (fun k => by rw [laws_FnProducts.j2]) (Ev.neg (by simp) ?_)
    obtain ⟨q, im, _, hq⟩ := parse_impl (attT c).1
    refine Ev.bind im (Ev.cases (fun hf => ?_) (fun _ => t3))
    have hA : archB c = true := by
      unfold attT at hf
      by_cases h : archB c = true
      · exact h
      · rw [if_neg h] at hf; simp at hf
    have hq' : q = (c, true) := by
      refine hq c (archB_true.1 hA) ?_
      unfold attT
      rw [if_pos hA, txt_up (archB_true.1 hA)]
    rw [hq']
    exact Ev.pos rfl (Ev.bind (rArchives_refl c (by have := (archB_true.1 hA).2; omega)) t3)
  unfold laws_FnProducts.f
  refine Ev.bindc (show laws_rBig.f l0 = some (decide ((l0.length : Int) > 65536)) from rfl) ?_
  refine Ev.cases (fun _ => Ev.now _) (fun _ => ?_)
  obtain ⟨r, b, c, d, e, hr, hb, hd⟩ := drawStore hc
  have si := store_impl r hr.sized ⟨b, c, d⟩ ⟨by simp only; omega, by simp only; omega⟩
  have ss := store_spec r hr.sized ⟨b, c, d⟩ ⟨by simp only; omega, by simp only; omega⟩
  have hlen : (storeT r ⟨b, c, d⟩).1.length ≤ 20 := by
    by_cases h : (storeT r ⟨b, c, d⟩).2 = true
    · exact (storeT_arch h).2
    · unfold storeT goodR at h ⊢
      split at h <;> try split at h
      · simp at h
      · rename_i h1 h2; rw [if_pos h1, if_neg h2]; simp
      · rename_i h1; rw [if_neg h1]; simp
  have hin : (storeT r ⟨b, c, d⟩).2 = true → (⟨b, c, d⟩ : S26) ∈ (storeT r ⟨b, c, d⟩).1 := by
    intro h
    unfold storeT goodR at h ⊢
    split at h <;> try split at h
    · rename_i h1 h2; rw [if_pos h1, if_pos h2]; exact stoL_in _ _
    · simp at h
    · simp at h
  have hA : (storeT r ⟨b, c, d⟩).2 = true → Arch (storeT r ⟨b, c, d⟩).1 := storeT_arch
  generalize storeT r ⟨b, c, d⟩ = q at si ss hlen hin hA
  obtain ⟨q0, q1⟩ := q
  simp only at hlen hin hA
  refine Ev.bind e (Ev.bind si (Ev.bind ss (Ev.neg (by simp) (Ev.bind (rArchives_refl q0 (by omega)) ?_))))
  refine Ev.step (fun k => by rw [laws_FnProducts.j0]) (Ev.neg (by simp) ?_)
  refine Ev.cases (fun h => ?_) (fun _ => t1)
  have hA := hA h
  have hin := hin h
  have hB := archB_true.2 hA
  have hS := (arch_small hA).sized
  have hp := hA.1.1 _ hin
  have hp2 := hp
  unfold prodB at hp2
  simp only [Bool.and_eq_true, decide_eq_true_eq] at hp2
  obtain ⟨hn, ⟨hh0, hh1⟩, _, _⟩ := hp2
  have v1 := valid_impl q0 b c hS (by omega)
  rw [show validT q0 b c = (⟨b, c, d⟩, true) from by
    unfold validT
    rw [if_pos ⟨hB, hn, hh0, hh1⟩]
    exact vp_has (p := ⟨b, c, d⟩) hA.1.2 hin] at v1
  have v2 := ver_impl q0 b hS (by omega)
  rw [show verT q0 b = (verL (bs b) q0, true) from by unfold verT; rw [if_pos ⟨hB, hn⟩]] at v2
  have v3 := store_impl q0 hS ⟨b, c, d⟩ ⟨by simp only; omega, by simp only; omega⟩
  rw [show storeT q0 ⟨b, c, d⟩ = (q0, true) from by unfold storeT goodR; rw [if_pos hB, stoL_same hA.1.2 hin, if_pos hB]] at v3
  have v4 := isArchive q0 hS
  rw [hB] at v4
  have hv := verL_len (bs b) q0
  refine Ev.bind v1 (Ev.bind v2 (Ev.bind v3 (Ev.pos rfl (Ev.pos rfl (Ev.pos rfl (Ev.neg (by simp) ?_))))))
  exact Ev.bind (has_ok c (verL (bs b) q0) (by omega) (verL_has (p := ⟨b, c, d⟩) hin)) (Ev.pos rfl (Ev.bind (rArchives_refl q0 (by omega)) (Ev.pos rfl (Ev.bind v4 (Ev.pos rfl t1)))))
end Go.Proofs.YtgmmanppmjlclaaGreatDoor.Pure
