/- Pruning does not change what is valid from its hour on, and names that changed have a valid version. Conditions: none beyond the given statement's. -/
import Derived.Test.YtgmmanppmjlclaaPx0
import Derived.Test.YtgmmanppmjlclaaPx37
import Derived.Test.YtgmmanppmjlclaaPx3
import Derived.Test.YtgmmanppmjlclaaPx5
import Derived.Test.YtgmmanppmjlclaaPx6
import Derived.Test.YtgmmanppmjlclaaPx7
import Derived.Test.YtgmmanppmjlclaaPx10
import Derived.Test.YtgmmanppmjlclaaPx9
import Derived.Test.YtgmmanppmjlclaaPx4
import Derived.Sort.Walk0
import Derived.Test.YtgmmanppmjlclaaPx27
import Derived.Test.YtgmmanppmjlclaaPx38
import Derived.Test.YtgmmanppmjlclaaPx40
import Derived.Test.YtgmmanppmjlclaaPx39
import Derived.Test.YtgmmanppmjlclaaPx14
import Derived.Test.YtgmmanppmjlclaaPx13
import Derived.Test.YtgmmanppmjlclaaPx24
import Derived.Test.YtgmmanppmjlclaaPx23
import Derived.Test.YtgmmanppmjlclaaPx19
import Derived.Lib.SlicesCompact
import Derived.Test.YtgmmanppmjlclaaPx17
import Derived.Test.YtgmmanppmjlclaaPx15
import Derived.Test.YtgmmanppmjlclaaPx21
import Derived.Test.YtgmmanppmjlclaaPx26
import Derived.Test.YtgmmanppmjlclaaPx25
import Derived.Test.YtgmmanppmjlclaaPx41
/- Small laws on "with enough rounds the function answers r" (Ev) and on wrapping sums; used by every plain law of this seat. -/
namespace Go.Proofs.Ytgmmanppmjlclaa.Pure
open Go.RowKit Go.Proofs.YtgmmanppmjlclaaW.PrintWords Go.Proofs.YtgmmanppmjlclaaW.PrintLast

section
variable {α β : Type} {r : α} {f g : Nat → Option α}
theorem Ev.pos {c : Prop} [Decidable c] (h : c) (e : Ev f r) : Ev (fun k => if c then f k else g k) r := e.congr fun _ => if_pos h
theorem Ev.neg {c : Prop} [Decidable c] (h : ¬ c) (e : Ev g r) : Ev (fun k => if c then f k else g k) r := e.congr fun _ => if_neg h
theorem Ev.const {a : Option α} (h : a = some r) : Ev (fun _ => a) r := ⟨0, fun _ _ => h⟩
theorem Ev.bindc {a : Option β} {b : β} {f : Nat → β → Option α} (h : a = some b) (k : Ev (fun n => f n b) r) : Ev (fun n => a.bind (f n)) r := Ev.bind (Ev.const h) k
theorem Ev.eq {r' : α} (h : Ev f r) (e : r = r') : Ev f r' := e ▸ h
theorem Ev.cases {c : Prop} [Decidable c] (h1 : c → Ev f r) (h2 : ¬ c → Ev g r) : Ev (fun k => if c then f k else g k) r := by
  by_cases h : c
  · exact Ev.pos h (h1 h)
  · exact Ev.neg h (h2 h)
/-- Two answers of one function are one. -/
theorem Ev.uniq {r' : α} (h : Ev f r) (h' : Ev f r') : r = r' := by
  obtain ⟨K, hK⟩ := h
  obtain ⟨K', hK'⟩ := h'
  have a := hK (max K K') (Nat.le_max_left _ _)
  have b := hK' (max K K') (Nat.le_max_right _ _)
  rw [a] at b
  exact Option.some.inj b
end

theorem w64 {x : Int} (h1 : -9223372036854775808 ≤ x) (h2 : x ≤ 9223372036854775807) : wrap64 x = x := by unfold wrap64; omega

theorem rd_lt (l : List Int) (i : Nat) (h : i < l.length) : rd l (i : Int) = l[i] := by simp [rd, h]
theorem take_succ' {α : Type} (l : List α) (i : Nat) (h : i < l.length) : l.take (i + 1) = l.take i ++ [l[i]] := by
  rw [List.take_succ_eq_append_getElem h]
theorem drop_cons' {α : Type} (l : List α) (i : Nat) (h : i < l.length) : l.drop i = l[i] :: l.drop (i + 1) := List.drop_eq_getElem_cons h
end Go.Proofs.Ytgmmanppmjlclaa.Pure

/- The reader of choices: it always gives a choice in its range and goes on by a bounded step. -/
namespace Go.Proofs.Ytgmmanppmjlclaa.Pure
open Go.RowKit Go.Proofs.Ytgmmanppmjlclaa.P Go.Proofs.YtgmmanppmjlclaaW.PrintWords Go.Proofs.YtgmmanppmjlclaaW.PrintLast

/-- The bytes that are read. -/
def Code (l : List Int) : Prop := ∀ x ∈ l, 0 ≤ x ∧ x ≤ 255
theorem code_of {l : List Int} (h : ∀ x ∈ l, (Lit.int .u8 x).wf = true) : Code l := fun x hx => by
  have := h x hx
  simp only [Lit.wf, Bool.and_eq_true, decide_eq_true_eq] at this
  exact this
theorem rd_code {l : List Int} (h : Code l) (i : Int) (h0 : 0 ≤ i) (h1 : i < l.length) : 0 ≤ rd l i ∧ rd l i ≤ 255 := by
  obtain ⟨n, rfl⟩ : ∃ n : Nat, i = n := ⟨i.toNat, by omega⟩
  rw [rd_lt l n (by omega)]
  exact h _ (List.getElem_mem (by omega))
theorem wrap_u64' (n : Int) : IntKind.u64.wrap n = n % 18446744073709551616 := by simp [IntKind.wrap, IntKind.bits, IntKind.signed]
theorem byte_of (n : Int) : 0 ≤ Go.bits .and .u64 (IntKind.u64.wrap n / 1099511627776) 255 ∧ Go.bits .and .u64 (IntKind.u64.wrap n / 1099511627776) 255 ≤ 255 := by
  rw [wrap_u64']
  have h := bits_mask .u64 24 (by decide) (fun n h0 h1 => by rw [wrap_u64']; omega) 8 (by decide) (n % 18446744073709551616 / 1099511627776) (by omega) (by omega)
  simp only [show ((2 : Int) ^ 8) = 256 from by decide, show ((256 : Int) - 1) = 255 from by decide] at h
  rw [h]; omega

/-- Where the reader stands: not far from the begin. -/
def At (a : Int) (n : Nat) : Prop := 0 ≤ a ∧ a ≤ n ∧ n ≤ 1000000000
theorem At.le {a : Int} {n m : Nat} (h : At a n) (hn : n ≤ m) (hm : m ≤ 1000000000) : At a m := ⟨h.1, by have := h.2.1; omega, hm⟩

theorem next_ok {l : List Int} (hc : Code l) {a s : Int} {n : Nat} (h : At a n) (hn : n + 1 ≤ 1000000000) : ∃ b a' s', spec_l1Cur_next.f l a s = some (b, a', s') ∧ 0 ≤ b ∧ b ≤ 255 ∧ At a' (n + 1) := by
  obtain ⟨h0, h1, h2⟩ := h
  have hw : wrap64 (a + 1) = a + 1 := w64 (by omega) (by omega)
  have ha : At (a + 1) (n + 1) := ⟨by omega, by omega, hn⟩
  unfold spec_l1Cur_next.f
  rw [hw]
  by_cases c1 : a < (l.length : Int)
  · have hr := rd_code hc a h0 c1
    rw [if_pos c1, if_pos h0, if_pos (by omega), w64 (x := rd l a) (by omega) (by omega)]
    exact ⟨_, _, _, rfl, hr.1, hr.2, ha⟩
  · rw [if_neg c1, if_neg (by omega)]
    have hb := byte_of (IntKind.u64.wrap (IntKind.u64.wrap (s * 6364136223846793005) + 0) + 889889)
    rw [w64 (x := Go.bits .and .u64 _ 255) (by omega) (by omega)]
    exact ⟨_, _, _, rfl, hb.1, hb.2, ha⟩
theorem pick_ok {l : List Int} (hc : Code l) {a s : Int} {n : Nat} (h : At a n) (hn : n + 2 ≤ 1000000000) (m : Int) (hm : m ≤ 1000000) : ∃ b a' s', spec_l1Cur_pick.f l a s m = some (b, a', s') ∧ 0 ≤ b ∧ (b < m ∨ b = 0) ∧ At a' (n + 2) := by
  unfold spec_l1Cur_pick.f
  by_cases c : m ≤ 1
  · rw [if_pos c]; exact ⟨_, _, _, rfl, by omega, .inr rfl, h.le (by omega) hn⟩
  · rw [if_neg c]
    obtain ⟨b, a', s', e, hb0, hb1, h'⟩ := next_ok hc (s := s) h (by omega)
    rw [e]
    simp only [Option.bind_some]
    by_cases c2 : m > 200
    · rw [if_pos c2]
      obtain ⟨b2, a2, s2, e2, hc0, hc1, h2⟩ := next_ok hc (s := s') h' (by omega)
      rw [e2]
      simp only [Option.bind_some]
      rw [if_neg (by omega), w64 (x := b * 256) (by omega) (by omega), w64 (x := b * 256 + b2) (by omega) (by omega)]
      refine ⟨_, _, _, rfl, Int.tmod_nonneg _ (by omega), .inl (Int.tmod_lt_of_pos _ (by omega)), h2.le (by omega) (by omega)⟩
    · rw [if_neg c2, if_neg (by omega)]
      exact ⟨_, _, _, rfl, Int.tmod_nonneg _ hb0, .inl (Int.tmod_lt_of_pos _ (by omega)), h'.le (by omega) (by omega)⟩
end Go.Proofs.Ytgmmanppmjlclaa.Pure

/- The reader of choices: one of some numbers. -/
namespace Go.Proofs.Ytgmmanppmjlclaa.Pure
open Go.RowKit Go.Proofs.Ytgmmanppmjlclaa.P Go.Proofs.YtgmmanppmjlclaaW.PrintWords Go.Proofs.YtgmmanppmjlclaaW.PrintLast

theorem among_ok {l : List Int} (hc : Code l) {a s : Int} {n : Nat} (h : At a n) (hn : n + 2 ≤ 1000000000) (xs : List Int) (hx : xs ≠ []) (hm : xs.length ≤ 1000000) : ∃ b a' s', spec_l1Cur_among.f l a s xs = some (b, a', s') ∧ b ∈ xs ∧ At a' (n + 2) := by
  unfold spec_l1Cur_among.f
  obtain ⟨b, a', s', e, h0, h1, h'⟩ := pick_ok hc (s := s) h hn (xs.length : Int) (by omega)
  have hp := List.length_pos_iff.2 hx
  rw [e]
  simp only [Option.bind_some]
  obtain ⟨j, rfl⟩ : ∃ j : Nat, b = j := ⟨b.toNat, by omega⟩
  rw [if_pos h0, if_pos (by omega), rd_lt xs j (by omega)]
  exact ⟨_, _, _, rfl, List.getElem_mem (by omega), h'⟩
end Go.Proofs.Ytgmmanppmjlclaa.Pure

/- One of some texts. -/
namespace Go.Proofs.Ytgmmanppmjlclaa.Pure
open Go.RowKit Go.Proofs.Ytgmmanppmjlclaa.P Go.Proofs.YtgmmanppmjlclaaW.PrintWords Go.Proofs.YtgmmanppmjlclaaW.PrintLast

theorem of_ok {l : List Int} (hc : Code l) {a s : Int} {n : Nat} (h : At a n) (hn : n + 2 ≤ 1000000000) (xs : List ByteArray) (hx : xs ≠ []) (hm : xs.length ≤ 1000000) : ∃ b a' s', spec_l1Cur_of.f l a s xs = some (b, a', s') ∧ b ∈ xs ∧ At a' (n + 2) := by
  unfold spec_l1Cur_of.f
  obtain ⟨b, a', s', e, h0, h1, h'⟩ := pick_ok hc (s := s) h hn (xs.length : Int) (by omega)
  have hp := List.length_pos_iff.2 hx
  rw [e]
  simp only [Option.bind_some]
  obtain ⟨j, rfl⟩ : ∃ j : Nat, b = j := ⟨b.toNat, by omega⟩
  have hj : j < xs.length := by omega
  rw [if_pos h0, if_pos (by omega)]
  refine ⟨_, _, _, rfl, ?_, h'⟩
  have : rdOf ByteArray.empty xs (j : Int) = xs[j] := by
    unfold rdOf
    rw [Int.toNat_natCast, List.getD_eq_getElem?_getD, List.getElem?_eq_getElem hj]; rfl
  rw [this]; exact List.getElem_mem hj
end Go.Proofs.Ytgmmanppmjlclaa.Pure

/- The reader of choices: yes or no. -/
namespace Go.Proofs.Ytgmmanppmjlclaa.Pure
open Go.RowKit Go.Proofs.Ytgmmanppmjlclaa.P Go.Proofs.YtgmmanppmjlclaaW.PrintWords Go.Proofs.YtgmmanppmjlclaaW.PrintLast

theorem one_ok {l : List Int} (hc : Code l) {a s : Int} {n : Nat} (h : At a n) (hn : n + 2 ≤ 1000000000) (m : Int) (hm : m ≤ 1000000) : ∃ b a' s', spec_l1Cur_one.f l a s m = some (b, a', s') ∧ At a' (n + 2) := by
  unfold spec_l1Cur_one.f
  obtain ⟨b, a', s', e, _, _, h'⟩ := pick_ok hc (s := s) h hn m hm
  rw [e]
  exact ⟨_, _, _, rfl, h'⟩
end Go.Proofs.Ytgmmanppmjlclaa.Pure

/- One of the first of some numbers. -/
namespace Go.Proofs.Ytgmmanppmjlclaa.Pure
open Go.RowKit Go.Proofs.Ytgmmanppmjlclaa.P Go.Proofs.YtgmmanppmjlclaaW.PrintWords Go.Proofs.YtgmmanppmjlclaaW.PrintLast

/-- One of the first of some numbers, how many of them being drawn as well. -/
theorem cut_ok {l : List Int} (hc : Code l) {a s : Int} {n : Nat} (h : At a n) (hn : n + 4 ≤ 1000000000) (xs : List Int) (p m : Int) (hp : 1 ≤ p) (hp2 : p ≤ 100) (hm : 1 ≤ m) (hx : m + (p - 1) / 11 ≤ xs.length) (hl : xs.length ≤ 100) :
    ∃ c a1 s1 b a' s', spec_l1Cur_pick.f l a s p = some (c, a1, s1) ∧ 0 ≤ wrap64 (m + wrap64 (Int.tdiv c 11)) ∧ wrap64 (m + wrap64 (Int.tdiv c 11)) ≤ (xs.length : Int) ∧ spec_l1Cur_among.f l a1 s1 (xs.take (wrap64 (m + wrap64 (Int.tdiv c 11))).toNat) = some (b, a', s') ∧ At a' (n + 4) := by
  obtain ⟨c, a1, s1, e1, h0, h1, h2⟩ := pick_ok hc (s := s) h (by omega) p (by omega)
  have ht : Int.tdiv c 11 = c / 11 := Int.tdiv_eq_ediv_of_nonneg h0
  have h3 : c / 11 ≤ (p - 1) / 11 := Int.ediv_le_ediv (by omega) (by omega)
  have h4 : 0 ≤ c / 11 := by omega
  have hw : wrap64 (m + wrap64 (Int.tdiv c 11)) = m + c / 11 := by rw [ht, w64 (x := c / 11) (by omega) (by omega), w64 (by omega) (by omega)]
  have hne : xs.take (m + c / 11).toNat ≠ [] := by
    intro he
    have := congrArg List.length he
    rw [List.length_take, List.length_nil] at this
    omega
  obtain ⟨b, a', s', e2, _, h5⟩ := among_ok hc (s := s1) h2 (by omega) (xs.take (m + c / 11).toNat) hne (by simp; omega)
  refine ⟨c, a1, s1, b, a', s', e1, ?_, ?_, ?_, h5.le (by omega) (by omega)⟩
  · rw [hw]; omega
  · rw [hw]; omega
  · rw [hw]; exact e2
end Go.Proofs.Ytgmmanppmjlclaa.Pure

/- Texts as lists of bytes: joins, cuts, single bytes, equality. -/
namespace Go.Proofs.Ytgmmanppmjlclaa.Pure
open Go.RowKit Go.Proofs.Ytgmmanppmjlclaa.P Go.Proofs.YtgmmanppmjlclaaW.PrintWords Go.Proofs.YtgmmanppmjlclaaW.PrintLast

def bs (s : ByteArray) : List UInt8 := s.data.toList
theorem bs_size (s : ByteArray) : (bs s).length = s.size := by rw [bs, Array.length_toList]; rfl
theorem bs_inj {s t : ByteArray} (h : bs s = bs t) : s = t := by
  cases s; cases t; simp [bs] at h; rw [h]
theorem toList_bs (s : ByteArray) : s.toList = bs s := ByteArray.toList_eq s
theorem bt_bs (s : ByteArray) (i : Nat) (h : i < (bs s).length) : bt s (i : Int) = (((bs s)[i]).toNat : Int) := by
  have h2 : ((i : Int)).toNat < s.size := by rw [bs_size] at h; simpa using h
  rw [← bt_at s (i : Int) h2]
  simp [bs]
  rfl
theorem bs_nil : bs ⟨#[]⟩ = [] := rfl
theorem l1In_f (x a b : Int) : spec_l1In.f x a b = some (decide (a ≤ x) && decide (x ≤ b)) := by
  unfold spec_l1In.f
  by_cases h : x ≥ a
  · simp [h]
  · simp [h]
theorem within_f (x a b : Int) : impl_within.f x a b = some (decide (a ≤ x) && decide (x ≤ b)) := by
  unfold impl_within.f
  by_cases h : x ≥ a
  · simp [h]
  · simp [h]

end Go.Proofs.Ytgmmanppmjlclaa.Pure

/- Printed texts: the program's test of a text's bytes. -/
namespace Go.Proofs.Ytgmmanppmjlclaa.Pure
open Go.RowKit Go.Proofs.Ytgmmanppmjlclaa.P Go.Proofs.YtgmmanppmjlclaaW.PrintWords Go.Proofs.YtgmmanppmjlclaaW.PrintLast
set_option linter.unusedVariables false

def plainB (l : List UInt8) : Bool := l.all fun b => decide (32 ≤ b.toNat) && decide (b.toNat ≤ 126)
theorem containsAny_any (cs : List UInt8) : ∀ l : List UInt8, Lib.containsAny l cs = l.any fun b => cs.contains b
  | [] => rfl
  | b :: l => by
    have ih := containsAny_any cs l
    have h0 := Lib.indexAny_ge cs l
    unfold Lib.containsAny at ih ⊢
    rw [List.any_cons, ← ih, Lib.indexAny]
    cases hc : cs.contains b
    · rw [if_neg (by simp), Bool.false_or]
      by_cases h : Lib.indexAny l cs = -1
      · rw [h]; rfl
      · rw [if_neg (by simpa using h)]
        exact decide_eq_decide.mpr (by omega)
    · rw [if_pos rfl, Bool.true_or]; rfl
theorem plain_ascii {s : ByteArray} (h : plainB (bs s) = true) : asciiB s = true := by
  refine List.all_eq_true.mpr fun b hb => ?_
  have := List.all_eq_true.mp h b hb
  simp only [Bool.and_eq_true, decide_eq_true_eq] at this ⊢
  omega
theorem isPrinted_l0 (s w : ByteArray) (hs : s.size < 4294967281) (hw : asciiB w = true) (hw2 : w.size < 4294967281) : ∀ (d i : Nat), s.size - i = d → i ≤ s.size → plainB ((bs s).take i) = true →
    Ev (fun k => impl_isPrinted.l0 k s w (i : Int)) (plainB ((bs s).drop i) && !(bs s).any fun b => (bs w).contains b) := by
  have hl := bs_size s
  intro d
  induction d with
  | zero =>
    intro i hd hi hp
    rw [List.take_of_length_le (by omega)] at hp
    refine Ev.step (fun k => by rw [impl_isPrinted.l0]) ?_
    refine Ev.neg (by omega) (Ev.bindc (b := (bs s).any fun b => (bs w).contains b) ?_ (Ev.const ?_))
    · unfold strings_ContainsAny.f
      rw [if_pos (by rw [plain_ascii hp, hw]; simp; omega)]
      exact congrArg some (containsAny_any _ _)
    · rw [List.drop_of_length_le (by omega)]; rfl
  | succ d ih =>
    intro i hd hi hp
    have hb := bt_bs s i (by omega)
    have hc : (bs s).drop i = (bs s)[i]'(by omega) :: (bs s).drop (i + 1) := List.drop_eq_getElem_cons (by omega)
    refine Ev.step (fun k => by rw [impl_isPrinted.l0]) ?_
    refine Ev.pos (by omega) (Ev.pos (by omega) ?_)
    rw [hc, hb, w64 (by omega) (by omega), show (i : Int) + 1 = ((i + 1 : Nat) : Int) from by omega]
    have e1 : plainB ((bs s)[i]'(by omega) :: (bs s).drop (i + 1)) = ((decide (32 ≤ ((bs s)[i]'(by omega)).toNat) && decide (((bs s)[i]'(by omega)).toNat ≤ 126)) && plainB ((bs s).drop (i + 1))) := List.all_cons
    refine Ev.cases (fun h => ?_) (fun h => Ev.cases (fun h2 => ?_) (fun h2 => ?_))
    · exact Ev.const (by rw [e1, decide_eq_false (by omega)]; rfl)
    · exact Ev.const (by rw [e1, decide_eq_false (show ¬ ((bs s)[i]'(by omega)).toNat ≤ 126 by omega), Bool.and_false]; rfl)
    · refine Ev.eq (ih (i + 1) (by omega) (by omega) ?_) ?_
      · rw [List.take_succ_eq_append_getElem (by omega)]
        unfold plainB at hp ⊢
        rw [List.all_append, hp]
        simp only [List.all_cons, List.all_nil, Bool.and_true, Bool.true_and, Bool.and_eq_true, decide_eq_true_eq]
        omega
      · rw [e1, decide_eq_true (by omega), decide_eq_true (by omega)]; rfl
theorem isPrinted (s w : ByteArray) (hs : s.size < 4294967281) (hw : asciiB w = true) (hw2 : w.size < 4294967281) : Ev (fun k => impl_isPrinted.f k s w) (plainB (bs s) && !(bs s).any fun b => (bs w).contains b) := by
  unfold impl_isPrinted.f
  exact isPrinted_l0 s w hs hw hw2 _ 0 rfl (by omega) rfl
end Go.Proofs.Ytgmmanppmjlclaa.Pure

/- The laws' own helpers on lists of products and of texts: a copy, an equality, marks and their check. -/
namespace Go.Proofs.Ytgmmanppmjlclaa.Pure
open Go.RowKit Go.Proofs.Ytgmmanppmjlclaa.P Go.Proofs.YtgmmanppmjlclaaW.PrintWords Go.Proofs.YtgmmanppmjlclaaW.PrintLast
set_option linter.unusedVariables false

theorem rdP_lt (l : List S30) (i : Nat) (h : i < l.length) : rd_T30 l (i : Int) = l[i] := by simp [rd_T30, h]
/-! ### marks -/
end Go.Proofs.Ytgmmanppmjlclaa.Pure

/- What an archive is, and that the program and the reference both say so. -/
namespace Go.Proofs.Ytgmmanppmjlclaa.Pure
open Go.RowKit Go.Proofs.Ytgmmanppmjlclaa.P Go.Proofs.YtgmmanppmjlclaaW.PrintWords Go.Proofs.YtgmmanppmjlclaaW.PrintLast
set_option linter.unusedVariables false
set_option linter.unusedSimpArgs false

def nameB (l : List UInt8) : Bool := (l.all fun b => decide (97 ≤ b.toNat) && decide (b.toNat ≤ 122)) && (decide (1 ≤ (l.length : Int)) && decide ((l.length : Int) ≤ 8))
def prodB (d : S30) : Bool := nameB (bs d.f0) && ((decide (0 ≤ d.f1) && decide (d.f1 ≤ 240)) && (decide ((d.f2.size : Int) ≤ 60) && plainB (bs d.f2)))

/-! ### names -/
theorem name_l0 (s : ByteArray) (hs : s.size ≤ 4611686018427387904) : ∀ (d i : Nat), s.size - i = d → i ≤ s.size →
    Ev (fun k => impl_isProductName.l0 k s (i : Int)) ((((bs s).drop i).all fun b => decide (97 ≤ b.toNat) && decide (b.toNat ≤ 122)) && (decide (1 ≤ ((bs s).length : Int)) && decide (((bs s).length : Int) ≤ 8))) := by
  have hl := bs_size s
  intro d
  induction d with
  | zero =>
    intro i hd hi
    refine Ev.step (fun k => by rw [impl_isProductName.l0]) ?_
    refine Ev.neg (by omega) (Ev.bindc (within_f _ _ _) (Ev.const ?_))
    rw [List.drop_of_length_le (by omega), hl]; rfl
  | succ d ih =>
    intro i hd hi
    have hlt : i < (bs s).length := by omega
    have hb := bt_bs s i hlt
    refine Ev.step (fun k => by rw [impl_isProductName.l0]) ?_
    refine Ev.pos (by omega) (Ev.pos (by omega) ?_)
    rw [hb, w64 (by omega) (by omega), show (i : Int) + 1 = ((i + 1 : Nat) : Int) from by omega, drop_cons' _ i hlt, List.all_cons]
    refine Ev.cases (fun h => ?_) (fun h => Ev.cases (fun h2 => ?_) (fun h2 => ?_))
    · exact Ev.const (by rw [decide_eq_false (show ¬ 97 ≤ ((bs s)[i]).toNat by omega)]; rfl)
    · exact Ev.const (by rw [decide_eq_false (show ¬ ((bs s)[i]).toNat ≤ 122 by omega), Bool.and_false]; rfl)
    · refine Ev.eq (ih (i + 1) (by omega) (by omega)) ?_
      rw [decide_eq_true (show 97 ≤ ((bs s)[i]).toNat by omega), decide_eq_true (show ((bs s)[i]).toNat ≤ 122 by omega)]; rfl
theorem isName (s : ByteArray) (hs : s.size ≤ 4611686018427387904) : Ev (fun k => impl_isProductName.f k s) (nameB (bs s)) := by
  unfold impl_isProductName.f nameB
  exact name_l0 s hs _ 0 rfl (by omega)
theorem nameS_l0 (s : ByteArray) (hs : s.size ≤ 4611686018427387904) : ∀ (d i : Nat), s.size - i = d → i ≤ s.size →
    Ev (fun k => spec_l26Name.l0 k s (i : Int)) ((((bs s).drop i).all fun b => decide (97 ≤ b.toNat) && decide (b.toNat ≤ 122)) && (decide (1 ≤ ((bs s).length : Int)) && decide (((bs s).length : Int) ≤ 8))) := by
  have hl := bs_size s
  intro d
  induction d with
  | zero =>
    intro i hd hi
    refine Ev.step (fun k => by rw [spec_l26Name.l0]) ?_
    refine Ev.neg (by omega) (Ev.bindc (l1In_f _ _ _) (Ev.const ?_))
    rw [List.drop_of_length_le (by omega), hl]; rfl
  | succ d ih =>
    intro i hd hi
    have hlt : i < (bs s).length := by omega
    have hb := bt_bs s i hlt
    refine Ev.step (fun k => by rw [spec_l26Name.l0]) ?_
    refine Ev.pos (by omega) (Ev.pos (by omega) ?_)
    rw [hb, w64 (by omega) (by omega), show (i : Int) + 1 = ((i + 1 : Nat) : Int) from by omega, drop_cons' _ i hlt, List.all_cons]
    refine Ev.cases (fun h => ?_) (fun h => Ev.cases (fun h2 => ?_) (fun h2 => ?_))
    · exact Ev.const (by rw [decide_eq_false (show ¬ 97 ≤ ((bs s)[i]).toNat by omega)]; rfl)
    · exact Ev.const (by rw [decide_eq_false (show ¬ ((bs s)[i]).toNat ≤ 122 by omega), Bool.and_false]; rfl)
    · refine Ev.eq (ih (i + 1) (by omega) (by omega)) ?_
      rw [decide_eq_true (show 97 ≤ ((bs s)[i]).toNat by omega), decide_eq_true (show ((bs s)[i]).toNat ≤ 122 by omega)]; rfl
theorem nameS (s : ByteArray) (hs : s.size ≤ 4611686018427387904) : Ev (fun k => spec_l26Name.f k s) (nameB (bs s)) := by
  unfold spec_l26Name.f nameB
  exact nameS_l0 s hs _ 0 rfl (by omega)
theorem hourS (h : Int) : spec_l26Hour.f h = some (decide (0 ≤ h) && decide (h ≤ 240)) := by
  unfold spec_l26Hour.f; rw [l1In_f]; rfl

/-! ### one product -/
theorem isProduct (a : ByteArray) (h : Int) (t : ByteArray) (ha : a.size ≤ 4611686018427387904) (ht : t.size ≤ 4611686018427387904) : Ev (fun k => impl_isProduct.f k a h t) (prodB ⟨a, h, t⟩) := by
  unfold impl_isProduct.f prodB
  simp only
  refine Ev.bind (isName a ha) (Ev.cases (fun h1 => ?_) (fun h1 => ?_))
  · rw [h1, Bool.true_and]
    refine Ev.bindc (within_f _ _ _) (Ev.cases (fun h2 => ?_) (fun h2 => ?_))
    · rw [h2, Bool.true_and]
      refine Ev.cases (fun h3 => ?_) (fun h3 => ?_)
      · rw [decide_eq_true h3, Bool.true_and]
        have hp := isPrinted t ⟨#[]⟩ (by omega) rfl (by decide)
        refine Ev.bind hp (Ev.const ?_)
        rw [bs_nil]
        simp
      · rw [decide_eq_false h3]; exact Ev.now _
    · rw [Bool.eq_false_iff.mpr h2]; exact Ev.now _
  · rw [Bool.eq_false_iff.mpr h1]; exact Ev.now _
theorem product_l0 (a : ByteArray) (h : Int) (t : ByteArray) (ha : a.size ≤ 4611686018427387904) (ht : t.size ≤ 4611686018427387904) : ∀ (d i : Nat), t.size - i = d → i ≤ t.size →
    Ev (fun k => spec_l26Product.l0 k (i : Int) a h t) (plainB ((bs t).drop i) && (nameB (bs a) && ((decide (0 ≤ h) && decide (h ≤ 240)) && decide ((t.size : Int) ≤ 60)))) := by
  have hl := bs_size t
  intro d
  induction d with
  | zero =>
    intro i hd hi
    refine Ev.step (fun k => by rw [spec_l26Product.l0]) ?_
    rw [List.drop_of_length_le (by omega), show plainB [] = true from rfl, Bool.true_and]
    refine Ev.neg (by omega) (Ev.bind (nameS a ha) (Ev.cases (fun h1 => ?_) (fun h1 => ?_)))
    · rw [h1, Bool.true_and]
      refine Ev.bindc (hourS h) (Ev.cases (fun h2 => ?_) (fun h2 => ?_))
      · rw [h2, Bool.true_and]; exact Ev.now _
      · rw [Bool.eq_false_iff.mpr h2]; exact Ev.now _
    · rw [Bool.eq_false_iff.mpr h1]; exact Ev.now _
  | succ d ih =>
    intro i hd hi
    have hlt : i < (bs t).length := by omega
    have hb := bt_bs t i hlt
    have hb2 : ((bs t)[i]).toNat < 256 := ((bs t)[i]).toNat_lt
    refine Ev.step (fun k => by rw [spec_l26Product.l0]) ?_
    refine Ev.pos (by omega) (Ev.pos (by omega) ?_)
    rw [hb, w64 (x := (((bs t)[i]).toNat : Int)) (by omega) (by omega), w64 (by omega) (by omega), show (i : Int) + 1 = ((i + 1 : Nat) : Int) from by omega, drop_cons' _ i hlt]
    have e1 : plainB ((bs t)[i] :: (bs t).drop (i + 1)) = ((decide (32 ≤ ((bs t)[i]).toNat) && decide (((bs t)[i]).toNat ≤ 126)) && plainB ((bs t).drop (i + 1))) := List.all_cons
    have e2 : (decide ((32 : Int) ≤ (((bs t)[i]).toNat : Int)) && decide ((((bs t)[i]).toNat : Int) ≤ 126)) = (decide (32 ≤ ((bs t)[i]).toNat) && decide (((bs t)[i]).toNat ≤ 126)) := by
      congr 1 <;> exact decide_eq_decide.mpr (by omega)
    rw [e1]
    refine Ev.bindc (l1In_f _ _ _) ?_
    rw [e2]
    refine Ev.cases (fun h1 => ?_) (fun h1 => ?_)
    · rw [h1, Bool.true_and]; exact ih (i + 1) (by omega) (by omega)
    · rw [Bool.eq_false_iff.mpr h1]; exact Ev.now _
theorem product (a : ByteArray) (h : Int) (t : ByteArray) (ha : a.size ≤ 4611686018427387904) (ht : t.size ≤ 4611686018427387904) : Ev (fun k => spec_l26Product.f k a h t) (prodB ⟨a, h, t⟩) := by
  unfold spec_l26Product.f
  refine Ev.eq (product_l0 a h t ha ht _ 0 rfl (by omega)) ?_
  rw [List.drop_zero]
  unfold prodB
  simp only
  generalize plainB (bs t) = x
  generalize nameB (bs a) = y
  generalize (decide (0 ≤ h) && decide (h ≤ 240)) = z
  generalize decide ((t.size : Int) ≤ 60) = u
  cases x <;> cases y <;> cases z <;> cases u <;> rfl

/-! ### the order -/
def pLt (a b : S30) : Prop := bs a.f0 < bs b.f0 ∨ (bs a.f0 = bs b.f0 ∧ a.f1 < b.f1)
theorem pLt_trans {a b c : S30} (h1 : pLt a b) (h2 : pLt b c) : pLt a c := by
  rcases h1 with h1 | ⟨e1, h1⟩ <;> rcases h2 with h2 | ⟨e2, h2⟩
  · exact .inl (List.lt_trans h1 h2)
  · exact .inl (e2 ▸ h1)
  · exact .inl (e1 ▸ h2)
  · exact .inr ⟨e1.trans e2, by omega⟩
theorem before_f (a b : S30) : ∃ r, spec_l26Before.f a.f0 a.f1 a.f2 b.f0 b.f1 b.f2 = some r ∧ (r = true ↔ pLt a b) := by
  unfold spec_l26Before.f pLt
  rw [toList_bs, toList_bs, bytesLess_eq]
  by_cases h1 : bs a.f0 < bs b.f0
  · rw [if_pos (by simpa using h1)]
    exact ⟨true, rfl, by simp [h1]⟩
  · rw [if_neg (by simpa using h1)]
    by_cases h2 : bs a.f0 = bs b.f0
    · rw [if_pos h2]
      exact ⟨_, rfl, by rw [decide_eq_true_eq]; exact ⟨fun h => .inr ⟨h2, h⟩, fun h => h.elim (fun h => absurd h h1) (fun h => h.2)⟩⟩
    · rw [if_neg h2]
      exact ⟨false, rfl, by simp [h1, h2]⟩
theorem cmpB_lt : ∀ (x y : List UInt8), (Lib.compareBytes x y < 0 ↔ x < y) ∧ (Lib.compareBytes x y = 0 ↔ x = y)
  | [], [] => by simp [Lib.compareBytes]
  | [], y :: ys => by simp [Lib.compareBytes]
  | x :: xs, [] => by simp [Lib.compareBytes]
  | x :: xs, y :: ys => by
    have ih := cmpB_lt xs ys
    simp only [Lib.compareBytes, List.cons_lt_cons_iff, List.cons.injEq]
    by_cases h1 : x < y
    · rw [if_pos h1]
      refine ⟨by simp [h1], ?_⟩
      have : x ≠ y := fun e => by subst e; exact UInt8.lt_irrefl _ h1
      simp [this]
    · rw [if_neg h1]
      by_cases h2 : y < x
      · rw [if_pos h2]
        have : x ≠ y := fun e => by subst e; exact UInt8.lt_irrefl _ h2
        simp [this, h1]
      · rw [if_neg h2]
        have e : x = y := UInt8.le_antisymm (UInt8.not_lt.1 h2) (UInt8.not_lt.1 h1)
        subst e
        rw [ih.1, ih.2]
        simp [UInt8.lt_irrefl]
theorem compare_intP (x y : Int) : cmp_Compare_int.f x y = some (if x < y then -1 else if y < x then 1 else 0) := by
  unfold cmp_Compare_int.f cmp_isNaN_int.f
  simp
  split <;> (try rfl) <;> split <;> rfl
theorem or_intP (a b : Int) (k : Nat) (hk : 3 ≤ k) : cmp_Or_int.f k [a, b] = some (if a ≠ 0 then a else b) := by
  have h3 : cmp_Or_int.f 3 [a, b] = some (if a ≠ 0 then a else b) := by
    unfold cmp_Or_int.f
    by_cases ha : a = 0
    · subst ha
      by_cases hb : b = 0
      · subst hb; simp [cmp_Or_int.l0, rd, wrap64]
      · simp [cmp_Or_int.l0, rd, wrap64, hb]
    · simp [cmp_Or_int.l0, rd, wrap64, ha]
  obtain ⟨d, rfl⟩ : ∃ d, k = 3 + d := ⟨k - 3, by omega⟩
  clear hk
  induction d with
  | zero => exact h3
  | succ d ih => exact cmp_Or_int.mono _ _ _ ih
def cmpP (a b : S30) : Int := if Lib.compareBytes (bs a.f0) (bs b.f0) ≠ 0 then Lib.compareBytes (bs a.f0) (bs b.f0) else if a.f1 < b.f1 then -1 else if b.f1 < a.f1 then 1 else 0
theorem compareP (a b : S30) : Ev (fun k => impl_compareProducts.f k a.f0 a.f1 a.f2 b.f0 b.f1 b.f2) (cmpP a b) := by
  unfold impl_compareProducts.f cmpP
  refine Ev.bindc (b := Lib.compareBytes (bs a.f0) (bs b.f0)) rfl (Ev.bindc (compare_intP _ _) ?_)
  exact Ev.bind (⟨3, fun k hk => or_intP _ _ k hk⟩) (Ev.now _)
theorem cmpP_lt (a b : S30) : cmpP a b < 0 ↔ pLt a b := by
  have h := cmpB_lt (bs a.f0) (bs b.f0)
  unfold cmpP pLt
  by_cases h0 : Lib.compareBytes (bs a.f0) (bs b.f0) = 0
  · rw [if_neg (by simpa using h0)]
    have e := h.2.1 h0
    have hn : ¬ bs a.f0 < bs b.f0 := by rw [e]; exact List.lt_irrefl _
    simp only [hn, e, false_or, true_and]
    split
    · simp; omega
    · split
      · simp; omega
      · simp; omega
  · rw [if_pos h0, h.1]
    have hn : ¬ bs a.f0 = bs b.f0 := fun e => h0 (h.2.2 e)
    simp [hn]

/-! ### archives -/
def Arch1 (l : List S30) : Prop := (∀ d ∈ l, prodB d = true) ∧ l.Pairwise pLt
def Arch (l : List S30) : Prop := Arch1 l ∧ l.length ≤ 20
open Classical in
noncomputable def archB (l : List S30) : Bool := decide (Arch l)
theorem archB_true {l : List S30} : archB l = true ↔ Arch l := by unfold archB; simp
theorem archB_not {l : List S30} (h : ¬ Arch l) : archB l = false := by
  cases e : archB l with
  | false => rfl
  | true => exact absurd (archB_true.1 e) h
/-- No text is too long to be handled. -/
def Sized (l : List S30) : Prop := l.length ≤ 1048577 ∧ ∀ z ∈ l, z.f0.size ≤ 1048576 ∧ z.f2.size ≤ 1048576
theorem arch_step {l : List S30} {i : Nat} (hi : i < l.length) (h : Arch1 (l.take i)) (ho : prodB l[i] = true) (h0 : ∀ (hp : 0 < i), pLt (l[i - 1]'(by omega)) l[i]) : Arch1 (l.take (i + 1)) := by
  rw [take_succ' _ _ hi]
  refine ⟨fun d hd => ?_, List.pairwise_append.2 ⟨h.2, List.pairwise_singleton _ _, fun a ha b hb => ?_⟩⟩
  · rcases List.mem_append.1 hd with hd | hd
    · exact h.1 d hd
    · rw [List.mem_singleton.1 hd]; exact ho
  · rw [List.mem_singleton.1 hb]
    obtain ⟨j, hj, rfl⟩ := List.getElem_of_mem ha
    have hj' : j < i := by simp at hj; omega
    have hlast := h0 (by omega)
    by_cases e : j = i - 1
    · subst e; simpa using hlast
    · have h1 := List.pairwise_iff_getElem.1 h.2 j (i - 1) hj (by simp; omega) (by omega)
      exact pLt_trans h1 (by simpa using hlast)
theorem arch_order {l : List S30} (h : Arch l) {i : Nat} (hi : i < l.length) (hp : 0 < i) : pLt (l[i - 1]'(by omega)) l[i] := List.pairwise_iff_getElem.1 h.1.2 (i - 1) i (by omega) hi (by omega)
theorem arch_l0 (l : List S30) (hs : Sized l) : ∀ (d i : Nat), l.length - i = d → i ≤ l.length → Arch1 (l.take i) →
    Ev (fun k => impl_IsValidArchive.l0 k l l (l.length : Int) (i : Int)) (archB l) := by
  have hl := hs.1
  intro d
  induction d with
  | zero =>
    intro i hd hi hR
    obtain rfl : i = l.length := by omega
    rw [List.take_length] at hR
    refine Ev.step (fun k => by rw [impl_IsValidArchive.l0]) ?_
    refine Ev.neg (by omega) (Ev.const ?_)
    congr 1
    rw [Bool.eq_iff_iff, archB_true, decide_eq_true_eq]
    exact ⟨fun h => ⟨hR, by omega⟩, fun h => by have := h.2; omega⟩
  | succ d ih =>
    intro i hd hi hR
    have hlt : i < l.length := by omega
    have hsz := hs.2 l[i] (List.getElem_mem _)
    refine Ev.step (fun k => by rw [impl_IsValidArchive.l0]) ?_
    refine Ev.pos (by omega) (Ev.pos (by omega) (Ev.pos (by omega) ?_))
    rw [rdP_lt l i hlt, w64 (x := (i : Int) + 1) (by omega) (by omega), show (i : Int) + 1 = ((i + 1 : Nat) : Int) from by omega]
    refine Ev.bind (isProduct _ _ _ (by omega) (by omega)) (Ev.cases (fun h1 => ?_) (fun h1 => Ev.const ?_))
    · refine Ev.cases (fun hp => ?_) (fun hp => ih (i + 1) (by omega) (by omega) (arch_step hlt hR h1 (fun h => by omega)))
      have hpi : 0 < i := by omega
      have ew : wrap64 ((i : Int) - 1) = ((i - 1 : Nat) : Int) := by rw [w64 (by omega) (by omega)]; omega
      rw [ew, rdP_lt l (i - 1) (by omega)]
      refine Ev.pos (by omega) (Ev.pos (by omega) (Ev.bind (compareP _ _) (Ev.cases (fun h2 => Ev.const ?_) (fun h2 => ?_))))
      · rw [archB_not (fun hA => by have := (cmpP_lt _ _).2 (arch_order hA hlt hpi); omega)]
      · exact ih (i + 1) (by omega) (by omega) (arch_step hlt hR h1 (fun h => (cmpP_lt _ _).1 (by omega)))
    · rw [archB_not (fun hA => h1 (hA.1.1 _ (List.getElem_mem _)))]
theorem isArchive (l : List S30) (hs : Sized l) : Ev (fun k => impl_IsValidArchive.f k l) (archB l) := by
  unfold impl_IsValidArchive.f
  exact arch_l0 l hs _ 0 rfl (by omega) ⟨by simp, by simp⟩
theorem archS_l0 (l : List S30) (hs : Sized l) : ∀ (d i : Nat), l.length - i = d → i ≤ l.length → Arch1 (l.take i) →
    Ev (fun k => spec_l26Good.l0 k l (i : Int)) (archB l) := by
  have hl := hs.1
  intro d
  induction d with
  | zero =>
    intro i hd hi hR
    obtain rfl : i = l.length := by omega
    rw [List.take_length] at hR
    refine Ev.step (fun k => by rw [spec_l26Good.l0]) ?_
    refine Ev.neg (by omega) (Ev.const ?_)
    congr 1
    rw [Bool.eq_iff_iff, archB_true, decide_eq_true_eq]
    exact ⟨fun h => ⟨hR, by omega⟩, fun h => by have := h.2; omega⟩
  | succ d ih =>
    intro i hd hi hR
    have hlt : i < l.length := by omega
    have hsz := hs.2 l[i] (List.getElem_mem _)
    refine Ev.step (fun k => by rw [spec_l26Good.l0]) ?_
    refine Ev.pos (by omega) (Ev.pos (by omega) ?_)
    rw [rdP_lt l i hlt, w64 (x := (i : Int) + 1) (by omega) (by omega), show (i : Int) + 1 = ((i + 1 : Nat) : Int) from by omega]
    refine Ev.bind (product _ _ _ (by omega) (by omega)) (Ev.cases (fun h1 => ?_) (fun h1 => Ev.const ?_))
    · refine Ev.cases (fun hp => ?_) (fun hp => ih (i + 1) (by omega) (by omega) (arch_step hlt hR h1 (fun h => by omega)))
      have hpi : 0 < i := by omega
      have ew : wrap64 ((i : Int) - 1) = ((i - 1 : Nat) : Int) := by rw [w64 (by omega) (by omega)]; omega
      rw [ew, rdP_lt l (i - 1) (by omega)]
      obtain ⟨r, hr, hiff⟩ := before_f (l[i - 1]'(by omega)) l[i]
      refine Ev.pos (by omega) (Ev.pos (by omega) (Ev.bindc hr (Ev.cases (fun h2 => ?_) (fun h2 => Ev.const ?_))))
      · exact ih (i + 1) (by omega) (by omega) (arch_step hlt hR h1 (fun h => hiff.1 h2))
      · rw [archB_not (fun hA => h2 (hiff.2 (arch_order hA hlt hpi)))]
    · rw [archB_not (fun hA => h1 (hA.1.1 _ (List.getElem_mem _)))]
theorem goodArchive (l : List S30) (hs : Sized l) : Ev (fun k => spec_l26Good.f k l) (archB l) := by
  unfold spec_l26Good.f
  exact archS_l0 l hs _ 0 rfl (by omega) ⟨by simp, by simp⟩
end Go.Proofs.Ytgmmanppmjlclaa.Pure

/- What the reference's StoreProduct answers. -/
namespace Go.Proofs.Ytgmmanppmjlclaa.Pure
open Go.RowKit Go.Proofs.Ytgmmanppmjlclaa.P Go.Proofs.YtgmmanppmjlclaaW.PrintWords Go.Proofs.YtgmmanppmjlclaaW.PrintLast
set_option linter.unusedVariables false

open Classical in
/-- A product put into its place. -/
noncomputable def stoL (p : S30) : List S30 → List S30
  | [] => [p]
  | x :: xs => if pLt x p then x :: stoL p xs else if pLt p x then p :: x :: xs else p :: xs
noncomputable def goodR (y : List S30) : List S30 × Bool := if archB y = true then (y, true) else ([], false)
theorem store_j2 (l : List S30) (hl : l.length ≤ 20) (i : Nat) (y : List S30) (hy : y.length ≤ 21) (b : Bool) (hi : i ≤ l.length) (hb : b = true → i < l.length) (hs : Sized (y ++ l.drop (if b = true then i + 1 else i))) :
    Ev (fun k => spec_StoreProduct.j2 k l (i : Int) y b) (goodR (y ++ l.drop (if b = true then i + 1 else i))) := by
  have hgood : ∀ z, Sized z → Ev (fun k => (spec_l26Good.f k z).bind fun t => if t = true then some (z, true) else some ([], false)) (goodR z) := fun z hz => by
    refine Ev.bind (goodArchive z hz) (Ev.cases (fun h => Ev.const ?_) (fun h => Ev.const ?_))
    · unfold goodR; rw [if_pos h]
    · unfold goodR; rw [if_neg h]
  refine Ev.step (fun k => by rw [spec_StoreProduct.j2]) ?_
  cases b with
  | true =>
    have hi2 := hb rfl
    rw [if_pos rfl] at hs
    rw [w64 (x := (i : Int) + 1) (by omega) (by omega), show (i : Int) + 1 = ((i + 1 : Nat) : Int) from by omega, Int.toNat_natCast]
    refine Ev.pos rfl (Ev.pos (by omega) (Ev.pos (by omega) (Ev.bindc rfl (Ev.pos ?_ (Ev.bindc rfl ?_)))))
    · simp; omega
    · rw [if_pos rfl]; exact hgood _ hs
  | false =>
    rw [if_neg (by decide)] at hs
    rw [Int.toNat_natCast]
    refine Ev.neg (by decide) (Ev.pos (by omega) (Ev.pos (by omega) (Ev.bindc rfl (Ev.pos ?_ (Ev.bindc rfl ?_)))))
    · simp; omega
    · rw [if_neg (by decide)]; exact hgood _ hs
theorem store_j1 (l : List S30) (hl : l.length ≤ 20) (hz : Sized l) (p : S30) (hp : p.f0.size ≤ 1048576 ∧ p.f2.size ≤ 1048576) (i : Nat) (hi : i ≤ l.length) (hn : ∀ h : i < l.length, ¬ pLt l[i] p) :
    Ev (fun k => spec_StoreProduct.j1 k l (i : Int) p.f0 p.f1 p.f2) (goodR (l.take i ++ stoL p (l.drop i))) := by
  have hsz : ∀ n, Sized ((l.take i ++ [p]) ++ l.drop n) := fun n => by
    refine ⟨by simp; omega, fun z h => ?_⟩
    rcases List.mem_append.1 h with h | h
    · rcases List.mem_append.1 h with h | h
      · exact hz.2 z (List.mem_of_mem_take h)
      · rw [List.mem_singleton.1 h]; exact hp
    · exact hz.2 z (List.mem_of_mem_drop h)
  have hlen : (l.take i ++ [p]).length ≤ 21 := by simp; omega
  refine Ev.step (fun k => by rw [spec_StoreProduct.j1]) ?_
  rw [Int.toNat_natCast]
  refine Ev.bindc rfl (Ev.pos (by omega) (Ev.pos (by omega) (Ev.bindc rfl (Ev.pos (by simp; omega) (Ev.bindc rfl (Ev.bindc rfl (Ev.pos (by simp; omega) (Ev.bindc rfl ?_))))))))
  rw [List.nil_append]
  by_cases hlt : i < l.length
  · obtain ⟨r, hr, hiff⟩ := before_f p l[i]
    rw [rdP_lt l i hlt, drop_cons' l i hlt]
    refine Ev.pos (by omega) (Ev.bindc hr ?_)
    have h1 := hn hlt
    cases r with
    | true =>
      have h2 := hiff.1 rfl
      refine Ev.eq (store_j2 l hl i _ hlen false hi (by simp) (hsz _)) ?_
      simp only [stoL]
      rw [if_neg h1, if_pos h2, if_neg (by decide), drop_cons' l i hlt, List.append_assoc]; rfl
    | false =>
      have h2 : ¬ pLt p l[i] := fun h => by have := hiff.2 h; cases this
      refine Ev.eq (store_j2 l hl i _ hlen true hi (fun _ => hlt) (hsz _)) ?_
      simp only [stoL]
      rw [if_neg h1, if_neg h2, if_pos trivial, List.append_assoc]; rfl
  · refine Ev.neg (by omega) (Ev.eq (store_j2 l hl i _ hlen false hi (by simp) (hsz _)) ?_)
    rw [if_neg (by decide), List.drop_of_length_le (by omega)]
    simp [stoL]
theorem store_l0 (l : List S30) (hl : l.length ≤ 20) (hz : Sized l) (p : S30) (hp : p.f0.size ≤ 1048576 ∧ p.f2.size ≤ 1048576) : ∀ (d i : Nat), l.length - i = d → i ≤ l.length →
    Ev (fun k => spec_StoreProduct.l0 k l (i : Int) p.f0 p.f1 p.f2) (goodR (l.take i ++ stoL p (l.drop i))) := by
  intro d
  induction d with
  | zero =>
    intro i hd hi
    refine Ev.step (fun k => by rw [spec_StoreProduct.l0]) ?_
    exact Ev.neg (by omega) (store_j1 l hl hz p hp i hi (fun h => by omega))
  | succ d ih =>
    intro i hd hi
    have hlt : i < l.length := by omega
    obtain ⟨r, hr, hiff⟩ := before_f l[i] p
    refine Ev.step (fun k => by rw [spec_StoreProduct.l0]) ?_
    rw [rdP_lt l i hlt, w64 (x := (i : Int) + 1) (by omega) (by omega), show (i : Int) + 1 = ((i + 1 : Nat) : Int) from by omega]
    refine Ev.pos (by omega) (Ev.pos (by omega) (Ev.bindc hr ?_))
    cases r with
    | true =>
      have h2 := hiff.1 rfl
      refine Ev.pos rfl (Ev.eq (ih (i + 1) (by omega) (by omega)) ?_)
      rw [drop_cons' l i hlt, take_succ' l i hlt]
      simp only [stoL]
      rw [if_pos h2, List.append_assoc]; rfl
    | false =>
      exact Ev.neg (by decide) (store_j1 l hl hz p hp i hi (fun _ h => by have := hiff.2 h; cases this))
noncomputable def storeT (l : List S30) (p : S30) : List S30 × Bool := if archB l = true then goodR (stoL p l) else ([], false)
theorem store_spec (l : List S30) (hz : Sized l) (p : S30) (hp : p.f0.size ≤ 1048576 ∧ p.f2.size ≤ 1048576) : Ev (fun k => spec_StoreProduct.f k l p.f0 p.f1 p.f2) (storeT l p) := by
  unfold spec_StoreProduct.f storeT
  refine Ev.bind (goodArchive l hz) (Ev.cases (fun h => ?_) (fun h => Ev.const ?_))
  · rw [if_pos h]
    have := store_l0 l (archB_true.1 h).2 hz p hp _ 0 rfl (by omega)
    simpa using this
  · rw [if_neg h]
theorem storeT_arch {l : List S30} {p : S30} (h : (storeT l p).2 = true) : Arch (storeT l p).1 := by
  unfold storeT goodR at h ⊢
  by_cases h1 : archB l = true
  · rw [if_pos h1] at h ⊢
    by_cases h2 : archB (stoL p l) = true
    · rw [if_pos h2] at h ⊢; exact archB_true.1 h2
    · rw [if_neg h2] at h; cases h
  · rw [if_neg h1] at h; cases h
end Go.Proofs.Ytgmmanppmjlclaa.Pure

/- The drawn archives, names and hours. -/
namespace Go.Proofs.Ytgmmanppmjlclaa.Pure
open Go.RowKit Go.Proofs.Ytgmmanppmjlclaa.P Go.Proofs.YtgmmanppmjlclaaW.PrintWords Go.Proofs.YtgmmanppmjlclaaW.PrintLast
set_option linter.unusedVariables false

theorem name26_ok {l : List Int} (hc : Code l) {a s : Int} {n : Nat} (h : At a n) (hn : n + 4 ≤ 1000000000) : ∃ b a' s', spec_l1Cur_name26.f l a s = some (b, a', s') ∧ b.size ≤ 1000 ∧ At a' (n + 4) := by
  unfold spec_l1Cur_name26.f
  obtain ⟨w, p1, s1, e1, h1⟩ := one_ok hc (s := s) h (by omega) 16 (by omega)
  rw [e1]
  simp only [Option.bind_some]
  by_cases hw : w = true
  · rw [if_pos hw]
    generalize hL : ([(⟨#[]⟩ : ByteArray), (⟨#[82, 97, 105, 110]⟩ : ByteArray), (⟨#[110, 105, 110, 101, 99, 104, 97, 114, 115]⟩ : ByteArray), (⟨#[97, 98, 99, 100, 101, 102, 103, 104]⟩ : ByteArray)] : List ByteArray) = L
    obtain ⟨b, p2, s2, e2, m2, h2⟩ := of_ok hc (s := s1) h1 (by omega) L (by rw [← hL]; simp) (by rw [← hL]; simp)
    have g : ∀ b ∈ L, b.size ≤ 1000 := by rw [← hL]; decide
    rw [e2]
    exact ⟨_, _, _, rfl, g _ m2, h2.le (by omega) hn⟩
  · rw [if_neg hw]
    generalize hL : ([(⟨#[97]⟩ : ByteArray), (⟨#[114, 97, 105, 110]⟩ : ByteArray), (⟨#[115, 110, 111, 119]⟩ : ByteArray), (⟨#[119, 105, 110, 100]⟩ : ByteArray), (⟨#[119, 105, 110, 100, 121]⟩ : ByteArray)] : List ByteArray) = L
    obtain ⟨b, p2, s2, e2, m2, h2⟩ := of_ok hc (s := s1) h1 (by omega) L (by rw [← hL]; simp) (by rw [← hL]; simp)
    have g : ∀ b ∈ L, b.size ≤ 1000 := by rw [← hL]; decide
    rw [e2]
    exact ⟨_, _, _, rfl, g _ m2, h2.le (by omega) hn⟩
theorem hour26_ok {l : List Int} (hc : Code l) {a s : Int} {n : Nat} (h : At a n) (hn : n + 4 ≤ 1000000000) : ∃ b a' s', spec_l1Cur_hour26.f l a s = some (b, a', s') ∧ At a' (n + 4) := by
  obtain ⟨c, a1, s1, b, a', s', e1, h1, h2, e2, h3⟩ := cut_ok hc (s := s) h hn [0, 1, 6, 12, 24, 100, 240, (-1), 241] 24 7 (by omega) (by omega) (by omega) (by simp) (by simp)
  refine ⟨b, a', s', ?_, h3⟩
  unfold spec_l1Cur_hour26.f
  simp only [Option.bind_some]
  rw [e1]
  simp only [Option.bind_some]
  rw [if_pos h1, if_pos h2, e2]
  rfl
theorem product_ok {l : List Int} (hc : Code l) {a s : Int} {n : Nat} (h : At a n) (hn : n + 10 ≤ 1000000000) : ∃ b c d a' s', spec_l1Cur_product.f l a s = some (b, c, d, a', s') ∧ b.size ≤ 1000 ∧ d.size ≤ 1000 ∧ At a' (n + 10) := by
  unfold spec_l1Cur_product.f
  obtain ⟨b, a1, s1, e1, g1, h1⟩ := name26_ok hc (s := s) h (by omega)
  obtain ⟨c, a2, s2, e2, h2⟩ := hour26_ok hc (s := s1) h1 (by omega)
  rw [e1]; simp only [Option.bind_some]
  rw [e2]; simp only [Option.bind_some]
  generalize hL : ([(⟨#[]⟩ : ByteArray), (⟨#[110, 111, 32, 114, 97, 105, 110]⟩ : ByteArray), (⟨#[109, 117, 99, 104]⟩ : ByteArray), (⟨#[97, 32, 98, 32, 99]⟩ : ByteArray), (⟨#[32, 32]⟩ : ByteArray), (⟨#[118, 101, 114, 121, 32, 109, 117, 99, 104]⟩ : ByteArray)] : List ByteArray) = L
  obtain ⟨d, a3, s3, e3, m3, h3⟩ := of_ok hc (s := s2) h2 (by omega) L (by rw [← hL]; simp) (by rw [← hL]; simp)
  have g : ∀ b ∈ L, b.size ≤ 1000 := by rw [← hL]; decide
  rw [e3]
  exact ⟨_, _, _, _, _, rfl, g1, g _ m3, h3.le (by omega) hn⟩
/-- What the laws draw is small. -/
def Small (l : List S30) : Prop := l.length ≤ 21 ∧ ∀ z ∈ l, z.f0.size ≤ 1000 ∧ z.f2.size ≤ 1000
theorem Small.sized {l : List S30} (h : Small l) : Sized l := ⟨by have := h.1; omega, fun z hz => by have := h.2 z hz; omega⟩
theorem arch_small {l : List S30} (h : Arch l) : Small l := by
  refine ⟨by have := h.2; omega, fun z hz => ?_⟩
  have h1 := h.1.1 z hz
  unfold prodB nameB at h1
  simp only [Bool.and_eq_true, decide_eq_true_eq] at h1
  have h2 := bs_size z.f0
  omega
theorem Small.set {l : List S30} (h : Small l) (i : Nat) (z : S30) (hz : z.f0.size ≤ 1000 ∧ z.f2.size ≤ 1000) : Small (l.set i z) := by
  refine ⟨by rw [List.length_set]; exact h.1, fun x hx => ?_⟩
  rcases List.mem_or_eq_of_mem_set hx with hx | rfl
  · exact h.2 x hx
  · exact hz
theorem small_at {l : List S30} (h : Small l) (b : Int) (h0 : 0 ≤ b) (h1 : b < l.length) : (rd_T30 l b).f0.size ≤ 1000 ∧ (rd_T30 l b).f2.size ≤ 1000 := by
  obtain ⟨j, rfl⟩ : ∃ j : Nat, b = j := ⟨b.toNat, by omega⟩
  rw [rdP_lt l j (by omega)]
  exact h.2 _ (List.getElem_mem _)
theorem archive_l1 {l : List Int} (hc : Code l) (x7 : Int) (p : ByteArray) (q : Int) (t : ByteArray) (h7 : 0 ≤ x7) (hp : p.size ≤ 1000 ∧ t.size ≤ 1000) : ∀ (d : Nat) (x : List S30) (x9 a s : Int) (n : Nat), 21 - x.length = d → At a n → Small x → x7 < x.length → n ≤ 900000000 + 2 * x.length →
    ∃ r a' s', Ev (fun k => spec_l1Cur_archive.l1 k x x7 x9 l a s p q t) (r, a', s') ∧ Small r ∧ At a' (n + 2 * (d + 1)) := by
  intro d
  induction d with
  | zero =>
    intro x x9 a s n hd h hx hx7 hn
    obtain ⟨b, a', s', e, hb0, hb1, h'⟩ := pick_ok hc (s := s) h (by have := hx.1; omega) 2 (by omega)
    refine ⟨x.set x7.toNat ⟨p, q, t⟩, a', s', ?_, hx.set _ _ hp, h'⟩
    refine Ev.step (fun k => by rw [spec_l1Cur_archive.l1]) ?_
    refine Ev.bindc e (Ev.neg ?_ (Ev.pos h7 (Ev.pos hx7 (Ev.now _))))
    simp only
    rw [w64 (by omega) (by omega)]; omega
  | succ d ih =>
    intro x x9 a s n hd h hx hx7 hn
    have hx1 := hx.1
    obtain ⟨b, a', s', e, hb0, hb1, h'⟩ := pick_ok hc (s := s) h (by omega) 2 (by omega)
    by_cases c : (x.length : Int) < wrap64 (20 + b)
    · have hx2 : Small (x ++ [⟨⟨#[122, 122]⟩, x9, ⟨#[]⟩⟩]) := by
        refine ⟨by simp; omega, fun z hz => ?_⟩
        rcases List.mem_append.1 hz with hz | hz
        · exact hx.2 z hz
        · rw [List.mem_singleton.1 hz]
          exact ⟨by show (2 : Nat) ≤ 1000; omega, by show (0 : Nat) ≤ 1000; omega⟩
      obtain ⟨r, a2, s2, e2, hr, h3⟩ := ih (x ++ [⟨⟨#[122, 122]⟩, x9, ⟨#[]⟩⟩]) (wrap64 (x9 + 1)) a' s' (n + 2) (by simp; omega) h' hx2 (by simp; omega) (by simp; omega)
      refine ⟨r, a2, s2, ?_, hr, h3.le (by omega) (by omega)⟩
      refine Ev.step (fun k => by rw [spec_l1Cur_archive.l1]) ?_
      exact Ev.bindc e (Ev.pos c (Ev.pos (by omega) e2))
    · refine ⟨x.set x7.toNat ⟨p, q, t⟩, a', s', ?_, hx.set _ _ hp, h'.le (by omega) (by omega)⟩
      refine Ev.step (fun k => by rw [spec_l1Cur_archive.l1]) ?_
      exact Ev.bindc e (Ev.neg c (Ev.pos h7 (Ev.pos hx7 (Ev.now _))))
theorem archive_l0 {l : List Int} (hc : Code l) : ∀ (d : Nat) (x : List S30) (a s : Int) (n : Nat), Arch x → At a n → n + 10 * d ≤ 800000000 →
    ∃ r a' s', Ev (fun k => spec_l1Cur_archive.l0 k x (d : Int) l a s) (r, a', s') ∧ Small r ∧ At a' (n + 10 * d + 60) := by
  intro d
  induction d with
  | zero =>
    intro x a s n hA h hn
    have hx := arch_small hA
    have hx1 := hx.1
    by_cases c : (x.length : Int) = 0
    · refine ⟨x, a, s, ?_, hx, h.le (by omega) (by omega)⟩
      refine Ev.step (fun k => by rw [spec_l1Cur_archive.l0]) ?_
      exact Ev.neg (by omega) (Ev.pos c (Ev.now _))
    · obtain ⟨b, a1, s1, e1, hb0, hb1, h1⟩ := pick_ok hc (s := s) h (by omega) (x.length : Int) (by omega)
      obtain ⟨b2, a2, s2, e2, hc0, hc1, h2⟩ := pick_ok hc (s := s1) h1 (by omega) 40 (by omega)
      have hsm := small_at hx b hb0 (by omega)
      by_cases c0 : b2 = 0
      · generalize hL : ([(⟨#[]⟩ : ByteArray), (⟨#[90]⟩ : ByteArray), (⟨#[122, 122]⟩ : ByteArray)] : List ByteArray) = L
        obtain ⟨b3, a3, s3, e3, m3, h3⟩ := of_ok hc (s := s2) h2 (by omega) L (by rw [← hL]; simp) (by rw [← hL]; simp)
        have g : ∀ b ∈ L, b.size ≤ 1000 := by rw [← hL]; decide
        subst hL
        refine ⟨x.set b.toNat ⟨b3, (rd_T30 x b).f1, (rd_T30 x b).f2⟩, a3, s3, ?_, hx.set _ _ ⟨g _ m3, hsm.2⟩, h3.le (by omega) (by omega)⟩
        refine Ev.step (fun k => by rw [spec_l1Cur_archive.l0]) ?_
        exact Ev.neg (by omega) (Ev.neg c (Ev.bindc e1 (Ev.pos hb0 (Ev.pos (by simp only; omega) (Ev.bindc e2 (Ev.pos c0 (Ev.bindc e3 (Ev.now _))))))))
      · by_cases c1 : b2 = 1
        · obtain ⟨b3, a3, s3, e3, _, h3⟩ := among_ok hc (s := s2) h2 (by omega) [(-1), 241, 0] (by simp) (by simp)
          refine ⟨x.set b.toNat ⟨(rd_T30 x b).f0, b3, (rd_T30 x b).f2⟩, a3, s3, ?_, hx.set _ _ hsm, h3.le (by omega) (by omega)⟩
          refine Ev.step (fun k => by rw [spec_l1Cur_archive.l0]) ?_
          exact Ev.neg (by omega) (Ev.neg c (Ev.bindc e1 (Ev.pos hb0 (Ev.pos (by simp only; omega) (Ev.bindc e2 (Ev.neg c0 (Ev.pos c1 (Ev.bindc e3 (Ev.now _)))))))))
        · by_cases c2 : b2 = 2
          · generalize hL : ([(⟨#[97, 10, 98]⟩ : ByteArray), (⟨#[127]⟩ : ByteArray), (⟨#[49, 50, 51, 52, 53, 54, 55, 56, 57, 48, 49, 50, 51, 52, 53, 54, 55, 56, 57, 48, 49, 50, 51, 52, 53, 54, 55, 56, 57, 48, 49, 50, 51, 52, 53, 54, 55, 56, 57, 48, 49, 50, 51, 52, 53, 54, 55, 56, 57, 48, 49, 50, 51, 52, 53, 54, 55, 56, 57, 48, 49]⟩ : ByteArray)] : List ByteArray) = L
            obtain ⟨b3, a3, s3, e3, m3, h3⟩ := of_ok hc (s := s2) h2 (by omega) L (by rw [← hL]; simp) (by rw [← hL]; simp)
            have g : ∀ b ∈ L, b.size ≤ 1000 := by rw [← hL]; decide
            subst hL
            refine ⟨x.set b.toNat ⟨(rd_T30 x b).f0, (rd_T30 x b).f1, b3⟩, a3, s3, ?_, hx.set _ _ ⟨hsm.1, g _ m3⟩, h3.le (by omega) (by omega)⟩
            refine Ev.step (fun k => by rw [spec_l1Cur_archive.l0]) ?_
            exact Ev.neg (by omega) (Ev.neg c (Ev.bindc e1 (Ev.pos hb0 (Ev.pos (by simp only; omega) (Ev.bindc e2 (Ev.neg c0 (Ev.neg c1 (Ev.pos c2 (Ev.bindc e3 (Ev.now _))))))))))
          · by_cases c3 : b2 = 3
            · obtain ⟨r, a3, s3, e3, hr, h3⟩ := archive_l1 hc b (rd_T30 x b).f0 (rd_T30 x b).f1 (rd_T30 x b).f2 hb0 hsm _ x 0 a2 s2 (n + 2 + 2) rfl h2 hx (by omega) (by omega)
              refine ⟨r, a3, s3, ?_, hr, h3.le (by omega) (by omega)⟩
              refine Ev.step (fun k => by rw [spec_l1Cur_archive.l0]) ?_
              exact Ev.neg (by omega) (Ev.neg c (Ev.bindc e1 (Ev.pos hb0 (Ev.pos (by simp only; omega) (Ev.bindc e2 (Ev.neg c0 (Ev.neg c1 (Ev.neg c2 (Ev.pos c3 e3)))))))))
            · refine ⟨x.set b.toNat ⟨(rd_T30 x b).f0, (rd_T30 x b).f1, (rd_T30 x b).f2⟩, a2, s2, ?_, hx.set _ _ hsm, h2.le (by omega) (by omega)⟩
              refine Ev.step (fun k => by rw [spec_l1Cur_archive.l0]) ?_
              exact Ev.neg (by omega) (Ev.neg c (Ev.bindc e1 (Ev.pos hb0 (Ev.pos (by simp only; omega) (Ev.bindc e2 (Ev.neg c0 (Ev.neg c1 (Ev.neg c2 (Ev.neg c3 (Ev.now _))))))))))
  | succ d ih =>
    intro x a s n hA h hn
    obtain ⟨b, c, f, a3, s3, e3, g0, g2, h3⟩ := product_ok hc (s := s) h (by omega)
    have es := store_spec x (arch_small hA).sized ⟨b, c, f⟩ (by simp only; omega)
    have ea := @storeT_arch x ⟨b, c, f⟩
    have key : ∀ y, Arch y → ∃ r a' s', Ev (fun k => spec_l1Cur_archive.l0 k y (wrap64 (((d + 1 : Nat) : Int) - 1)) l a3 s3) (r, a', s') ∧ Small r ∧ At a' (n + 10 * (d + 1) + 60) := fun y hy => by
      obtain ⟨r, a4, s4, e4, hr, h4⟩ := ih y a3 s3 (n + 10) hy h3 (by omega)
      refine ⟨r, a4, s4, ?_, hr, h4.le (by omega) (by omega)⟩
      rw [w64 (x := ((d + 1 : Nat) : Int) - 1) (by omega) (by omega), show ((d + 1 : Nat) : Int) - 1 = (d : Int) from by omega]
      exact e4
    generalize storeT x ⟨b, c, f⟩ = T at es ea
    by_cases hg : T.2 = true
    · obtain ⟨r, a4, s4, e4, hr, h4⟩ := key T.1 (ea hg)
      refine ⟨r, a4, s4, ?_, hr, h4⟩
      refine Ev.step (fun k => by rw [spec_l1Cur_archive.l0]) ?_
      exact Ev.pos (by omega) (Ev.bindc e3 (Ev.bind es (Ev.pos hg e4)))
    · obtain ⟨r, a4, s4, e4, hr, h4⟩ := key x hA
      refine ⟨r, a4, s4, ?_, hr, h4⟩
      refine Ev.step (fun k => by rw [spec_l1Cur_archive.l0]) ?_
      exact Ev.pos (by omega) (Ev.bindc e3 (Ev.bind es (Ev.neg hg e4)))
theorem archive_ok {l : List Int} (hc : Code l) {a s : Int} {n : Nat} (h : At a n) (hn : n ≤ 700000000) : ∃ r a' s', Ev (fun k => spec_l1Cur_archive.f k l a s) (r, a', s') ∧ Small r ∧ At a' (n + 200) := by
  obtain ⟨b, a1, s1, e1, hb0, hb1, h1⟩ := pick_ok hc (s := s) h (by omega) 9 (by omega)
  obtain ⟨d, rfl⟩ : ∃ d : Nat, b = d := ⟨b.toNat, by omega⟩
  obtain ⟨r, a2, s2, e2, hr, h2⟩ := archive_l0 hc d [] a1 s1 (n + 2) ⟨⟨by simp, by simp⟩, by simp⟩ h1 (by omega)
  refine ⟨r, a2, s2, ?_, hr, h2.le (by omega) (by omega)⟩
  unfold spec_l1Cur_archive.f
  exact Ev.bindc e1 e2
theorem at00 : At 0 0 := ⟨by omega, by omega, by omega⟩
theorem drawPrune {l : List Int} (hc : Code l) : ∃ r h, Ev (fun k => spec_DrawPruneArchive.f k l) (r, h) ∧ Small r := by
  obtain ⟨r, a, s, e, hr, h⟩ := archive_ok hc (s := 0) at00 (by omega)
  obtain ⟨b, a1, s1, e1, h1⟩ := hour26_ok hc (s := s) h (by omega)
  refine ⟨r, b, ?_, hr⟩
  unfold spec_DrawPruneArchive.f
  exact Ev.bindc (b := (l, 0, 0)) rfl (Ev.bind e (Ev.bindc e1 (Ev.now _)))
theorem drawChanged {l : List Int} (hc : Code l) : ∃ r f t, Ev (fun k => spec_DrawChangedBetween.f k l) (r, f, t) ∧ Small r := by
  obtain ⟨r, a, s, e, hr, h⟩ := archive_ok hc (s := 0) at00 (by omega)
  obtain ⟨b, a1, s1, e1, h1⟩ := hour26_ok hc (s := s) h (by omega)
  obtain ⟨c, a2, s2, e2, h2⟩ := hour26_ok hc (s := s1) h1 (by omega)
  refine ⟨r, b, c, ?_, hr⟩
  unfold spec_DrawChangedBetween.f
  exact Ev.bindc (b := (l, 0, 0)) rfl (Ev.bind e (Ev.bindc e1 (Ev.bindc e2 (Ev.now _))))
theorem drawValid {l : List Int} (hc : Code l) : ∃ r n h, Ev (fun k => spec_DrawValidProduct.f k l) (r, n, h) ∧ Small r ∧ n.size ≤ 1000 := by
  obtain ⟨r, a, s, e, hr, h⟩ := archive_ok hc (s := 0) at00 (by omega)
  obtain ⟨b, a1, s1, e1, g1, h1⟩ := name26_ok hc (s := s) h (by omega)
  obtain ⟨c, a2, s2, e2, h2⟩ := hour26_ok hc (s := s1) h1 (by omega)
  refine ⟨r, b, c, ?_, hr, g1⟩
  unfold spec_DrawValidProduct.f
  exact Ev.bindc (b := (l, 0, 0)) rfl (Ev.bind e (Ev.bindc e1 (Ev.bindc e2 (Ev.now _))))
end Go.Proofs.Ytgmmanppmjlclaa.Pure

/- The version of a name that is valid at an hour: the program looks from behind, the reference from the front. -/
namespace Go.Proofs.Ytgmmanppmjlclaa.Pure
open Go.RowKit Go.Proofs.Ytgmmanppmjlclaa.P Go.Proofs.YtgmmanppmjlclaaW.PrintWords Go.Proofs.YtgmmanppmjlclaaW.PrintLast
set_option linter.unusedVariables false

/-- The place of the last hit. -/
def lastI (a1 : ByteArray) (a2 : Int) : List S30 → Nat → Int → Int
  | [], _, b => b
  | p :: ps, i, b => if vpHit a1 a2 p = true then lastI a1 a2 ps (i + 1) (i : Int) else lastI a1 a2 ps (i + 1) b
theorem last_cases (a1 : ByteArray) (a2 : Int) : ∀ (xs : List S30) (i : Nat) (b : Int), (lastI a1 a2 xs i b = b ∧ ∀ y ∈ xs, vpHit a1 a2 y = false) ∨
    (∃ pre x post, xs = pre ++ x :: post ∧ vpHit a1 a2 x = true ∧ (∀ y ∈ post, vpHit a1 a2 y = false) ∧ lastI a1 a2 xs i b = ((i + pre.length : Nat) : Int))
  | [], i, b => .inl ⟨rfl, by simp⟩
  | p :: ps, i, b => by
    simp only [lastI]
    by_cases hp : vpHit a1 a2 p = true
    · rw [if_pos hp]
      rcases last_cases a1 a2 ps (i + 1) (i : Int) with ⟨h1, h2⟩ | ⟨pre, x, post, h1, h2, h3, h4⟩
      · exact .inr ⟨[], p, ps, rfl, hp, h2, by rw [h1]; simp⟩
      · exact .inr ⟨p :: pre, x, post, by rw [h1]; rfl, h2, h3, by rw [h4]; simp; omega⟩
    · rw [if_neg hp]
      rcases last_cases a1 a2 ps (i + 1) b with ⟨h1, h2⟩ | ⟨pre, x, post, h1, h2, h3, h4⟩
      · refine .inl ⟨h1, fun y hy => ?_⟩
        rcases List.mem_cons.1 hy with e | hy
        · rw [e]; simpa using hp
        · exact h2 y hy
      · exact .inr ⟨p :: pre, x, post, by rw [h1]; rfl, h2, h3, by rw [h4]; simp; omega⟩
theorem valid_l0 (l : List S30) (a1 : ByteArray) (a2 : Int) (hl : l.length ≤ 1048577) : ∀ (d i : Nat) (b : Int), l.length - i = d → i ≤ l.length →
    Ev (fun k => spec_l26Valid.l0 k l a1 a2 b (i : Int)) (lastI a1 a2 (l.drop i) i b) := by
  intro d
  induction d with
  | zero =>
    intro i b hd hi
    refine Ev.step (fun k => by rw [spec_l26Valid.l0]) ?_
    refine Ev.neg (by omega) (Ev.const ?_)
    rw [List.drop_of_length_le (by omega)]; rfl
  | succ d ih =>
    intro i b hd hi
    have hlt : i < l.length := by omega
    refine Ev.step (fun k => by rw [spec_l26Valid.l0]) ?_
    refine Ev.pos (by omega) (Ev.pos (by omega) ?_)
    rw [rdP_lt l i hlt, w64 (x := (i : Int) + 1) (by omega) (by omega), show (i : Int) + 1 = ((i + 1 : Nat) : Int) from by omega, drop_cons' l i hlt]
    simp only [lastI]
    refine Ev.cases (fun h1 => Ev.cases (fun h2 => ?_) (fun h2 => ?_)) (fun h1 => ?_)
    · rw [if_pos (show vpHit a1 a2 l[i] = true from decide_eq_true ⟨h1, h2⟩)]
      exact ih (i + 1) _ (by omega) (by omega)
    · rw [if_neg (show ¬ vpHit a1 a2 l[i] = true by unfold vpHit; simp [h2])]
      exact ih (i + 1) _ (by omega) (by omega)
    · rw [if_neg (show ¬ vpHit a1 a2 l[i] = true by unfold vpHit; simp [h1])]
      exact ih (i + 1) _ (by omega) (by omega)
theorem validEv (l : List S30) (a1 : ByteArray) (a2 : Int) (hl : l.length ≤ 1048577) : Ev (fun k => spec_l26Valid.f k l a1 a2) (lastI a1 a2 l 0 (-1)) := by
  unfold spec_l26Valid.f
  exact valid_l0 l a1 a2 hl _ 0 _ rfl (by omega)
/-- The last hit from the front is the first from behind. -/
theorem last_vp (l : List S30) (a1 : ByteArray) (a2 : Int) : (lastI a1 a2 l 0 (-1) < 0 ∧ vpOf a1 a2 l.reverse = (z30, false)) ∨ (∃ i : Nat, ∃ h : i < l.length, lastI a1 a2 l 0 (-1) = i ∧ vpOf a1 a2 l.reverse = (l[i], true)) := by
  rcases last_cases a1 a2 l 0 (-1) with ⟨h1, h2⟩ | ⟨pre, x, post, h1, h2, h3, h4⟩
  · exact .inl ⟨by omega, vpOf_miss a1 a2 _ (fun y hy => h2 y (List.mem_reverse.1 hy))⟩
  · refine .inr ⟨pre.length, by rw [h1]; simp, by rw [h4]; simp, ?_⟩
    subst h1
    rw [List.reverse_append, List.reverse_cons, List.append_assoc, List.singleton_append, vpOf_hit a1 a2 x pre.reverse post.reverse (fun y hy => h3 y (List.mem_reverse.1 hy)) h2]
    simp
theorem withinP (x a b : Int) : impl_within.f x a b = some (decide (a ≤ x ∧ x ≤ b)) := by
  unfold impl_within.f
  by_cases h : x ≥ a
  · rw [if_pos h]; congr 1; simp; omega
  · rw [if_neg h]; congr 1; simp; omega
end Go.Proofs.Ytgmmanppmjlclaa.Pure

/- What is left of an archive: the program strikes out of a copy, the reference gathers. -/
namespace Go.Proofs.Ytgmmanppmjlclaa.Pure
open Go.RowKit Go.Proofs.Ytgmmanppmjlclaa.P Go.Proofs.YtgmmanppmjlclaaW.PrintWords Go.Proofs.YtgmmanppmjlclaaW.PrintLast
set_option linter.unusedVariables false

/-- In an archive two places with one name and one hour are one. -/
theorem arch_place {l : List S30} (h : Arch l) {i j : Nat} (hi : i < l.length) (hj : j < l.length) (e0 : (l[i]).f0.toList = (l[j]).f0.toList) (e1 : (l[i]).f1 = (l[j]).f1) : i = j := by
  have key : ∀ a b : S30, a.f0.toList = b.f0.toList → a.f1 = b.f1 → ¬ pLt a b := fun a b h0 h1 hlt => by
    have h2 : bs a.f0 = bs b.f0 := by rw [← toList_bs, ← toList_bs]; exact h0
    rcases hlt with h3 | ⟨_, h3⟩
    · rw [h2] at h3; exact absurd h3 (List.lt_irrefl _)
    · omega
  rcases Nat.lt_trichotomy i j with hlt | heq | hlt
  · exact absurd (List.pairwise_iff_getElem.1 h.1.2 i j hi hj hlt) (key _ _ e0 e1)
  · exact heq
  · exact absurd (List.pairwise_iff_getElem.1 h.1.2 j i hj hi hlt) (key _ _ e0.symm e1.symm)
theorem prune_keep {l : List S30} (h : Arch l) (a : Int) {i : Nat} (hi : i < l.length) (hf : l[i].f1 < a) : prB l a l[i] = false ↔ lastI l[i].f0 a l 0 (-1) = (i : Int) := by
  have hhit : vpHit l[i].f0 a l[i] = true := decide_eq_true ⟨rfl, by omega⟩
  rcases last_cases l[i].f0 a l 0 (-1) with ⟨_, h2⟩ | _
  · rw [h2 _ (List.getElem_mem hi)] at hhit; cases hhit
  · rcases last_vp l l[i].f0 a with ⟨g1, g2⟩ | ⟨j, hj, g1, g2⟩
    · rename_i hh
      obtain ⟨pre, x, post, _, _, _, h4⟩ := hh
      omega
    · unfold prB
      rw [g1, g2, decide_eq_true hf]
      simp only [Bool.true_and, Bool.not_eq_false']
      constructor
      · intro hs
        have hs := of_decide_eq_true hs
        have := arch_place h hi hj hs.1 hs.2.1
        omega
      · intro e
        have : j = i := by omega
        subst this
        exact decide_eq_true ⟨rfl, rfl, rfl⟩
theorem pruneS_l0 (l : List S30) (h : Arch l) (a : Int) : ∀ (d i : Nat) (acc : List S30), l.length - i = d → i ≤ l.length → acc.length ≤ i →
    Ev (fun k => spec_PruneArchive.l0 k l a acc (i : Int)) (acc ++ (l.drop i).filter fun x => !prB l a x, true) := by
  have hl := h.2
  intro d
  induction d with
  | zero =>
    intro i acc hd hi ha
    refine Ev.step (fun k => by rw [spec_PruneArchive.l0]) ?_
    refine Ev.neg (by omega) (Ev.const ?_)
    rw [List.drop_of_length_le (by omega)]; simp
  | succ d ih =>
    intro i acc hd hi ha
    have hlt : i < l.length := by omega
    refine Ev.step (fun k => by rw [spec_PruneArchive.l0]) ?_
    refine Ev.pos (by omega) (Ev.pos (by omega) ?_)
    rw [rdP_lt l i hlt, w64 (x := (i : Int) + 1) (by omega) (by omega), show (i : Int) + 1 = ((i + 1 : Nat) : Int) from by omega, drop_cons' l i hlt, List.filter_cons]
    refine Ev.cases (fun h1 => ?_) (fun h1 => ?_)
    · have hp : prB l a l[i] = false := by unfold prB; rw [decide_eq_false (by omega)]; rfl
      rw [hp]
      refine Ev.pos (by omega) (Ev.eq (ih (i + 1) _ (by omega) (by omega) (by simp; omega)) ?_)
      simp
    · have hk := prune_keep h a hlt (by omega)
      refine Ev.bind (validEv l l[i].f0 a (by omega)) (Ev.cases (fun h2 => ?_) (fun h2 => ?_))
      · rw [hk.2 h2]
        refine Ev.pos (by omega) (Ev.eq (ih (i + 1) _ (by omega) (by omega) (by simp; omega)) ?_)
        simp
      · have hp : prB l a l[i] = true := by cases e : prB l a l[i] with | true => rfl | false => exact absurd (hk.1 e) h2
        rw [hp]
        exact ih (i + 1) _ (by omega) (by omega) (by omega)
noncomputable def pruneT (l : List S30) (a : Int) : List S30 × Bool := if archB l = true ∧ 0 ≤ a ∧ a ≤ 240 then (l.filter fun x => !prB l a x, true) else ([], false)
theorem pruneT_len (l : List S30) (a : Int) : (pruneT l a).1.length ≤ 20 := by
  unfold pruneT
  split
  · rename_i h
    have := (archB_true.1 h.1).2
    have := List.length_filter_le (fun x => !prB l a x) l
    simp only; omega
  · simp
theorem prune_impl (l : List S30) (a : Int) (hs : Sized l) : Ev (fun k => impl_PruneArchive.f k l a) (pruneT l a) := by
  unfold impl_PruneArchive.f pruneT
  refine Ev.bind (isArchive l hs) (Ev.cases (fun h1 => ?_) (fun h1 => by rw [if_neg (fun h => h1 h.1)]; exact Ev.now _))
  have hl := (archB_true.1 h1).2
  refine Ev.cases (fun h2 => ?_) (fun h2 => by rw [if_neg (fun h => h2 h.2)]; exact Ev.now _)
  rw [if_pos (show archB l = true ∧ 0 ≤ a ∧ a ≤ 240 from ⟨h1, h2⟩)]
  exact Ev.pos (by omega) (Ev.now _)
theorem prune_spec (l : List S30) (a : Int) (hs : Sized l) : Ev (fun k => spec_PruneArchive.f k l a) (pruneT l a) := by
  unfold spec_PruneArchive.f pruneT
  simp only [Option.bind_some]
  have hbad : ∀ x, x = true → Ev (fun k => spec_PruneArchive.j0 k l a [] x) ([], false) := fun x hx => by
    subst hx
    refine Ev.step (fun k => by rw [spec_PruneArchive.j0]) ?_
    exact Ev.pos rfl (Ev.now _)
  refine Ev.bind (goodArchive l hs) (Ev.cases (fun h1 => ?_) (fun h1 => by rw [if_neg (fun h => h1 h.1)]; exact hbad _ rfl))
  refine Ev.bindc (hourS _) ?_
  by_cases h2 : 0 ≤ a ∧ a ≤ 240
  · rw [if_pos ⟨h1, h2⟩]
    refine Ev.step (fun k => by rw [spec_PruneArchive.j0]) ?_
    refine Ev.neg (by simp [h2.1, h2.2]) (Ev.eq (pruneS_l0 l (archB_true.1 h1) a _ 0 [] rfl (by omega) (by simp)) (by simp))
  · rw [if_neg (fun h => h2 h.2)]
    refine hbad _ ?_
    by_cases h3 : 0 ≤ a
    · simp [h3, show ¬ a ≤ 240 by omega]
    · simp [h3]
end Go.Proofs.Ytgmmanppmjlclaa.Pure

/- Pruning leaves what is valid from its hour on. -/
namespace Go.Proofs.Ytgmmanppmjlclaa.Pure
open Go.RowKit Go.Proofs.Ytgmmanppmjlclaa.P Go.Proofs.YtgmmanppmjlclaaW.PrintWords Go.Proofs.YtgmmanppmjlclaaW.PrintLast
set_option linter.unusedVariables false

theorem vp_split (n : ByteArray) (h : Int) (l : List S30) : ((∀ y ∈ l, vpHit n h y = false) ∧ vpOf n h l.reverse = (z30, false)) ∨
    (∃ pre x post, l = pre ++ x :: post ∧ vpHit n h x = true ∧ (∀ y ∈ post, vpHit n h y = false) ∧ vpOf n h l.reverse = (x, true)) := by
  rcases last_cases n h l 0 (-1) with ⟨_, h2⟩ | ⟨pre, x, post, h1, h2, h3, _⟩
  · exact .inl ⟨h2, vpOf_miss n h _ (fun y hy => h2 y (List.mem_reverse.1 hy))⟩
  · refine .inr ⟨pre, x, post, h1, h2, h3, ?_⟩
    rw [h1, List.reverse_append, List.reverse_cons, List.append_assoc, List.singleton_append]
    exact vpOf_hit n h x pre.reverse post.reverse (fun y hy => h3 y (List.mem_reverse.1 hy)) h2
theorem vp_at {n : ByteArray} {h : Int} {pre post : List S30} {x : S30} (hx : vpHit n h x = true) (hp : ∀ y ∈ post, vpHit n h y = false) : vpOf n h (pre ++ x :: post).reverse = (x, true) := by
  rw [List.reverse_append, List.reverse_cons, List.append_assoc, List.singleton_append]
  exact vpOf_hit n h x pre.reverse post.reverse (fun y hy => hp y (List.mem_reverse.1 hy)) hx
theorem hit_name {n m : ByteArray} (e : n.toList = m.toList) (h : Int) (y : S30) : vpHit n h y = vpHit m h y := by unfold vpHit; rw [e]
/-- What is valid from the hour on is what was. -/
theorem prune_valid (l : List S30) (a h : Int) (hah : a ≤ h) (n : ByteArray) : vpOf n h (l.filter fun x => !prB l a x).reverse = vpOf n h l.reverse := by
  rcases vp_split n h l with ⟨h1, h2⟩ | ⟨pre, x, post, h1, h2, h3, h4⟩
  · rw [h2]
    exact vpOf_miss n h _ (fun y hy => h1 y ((List.mem_filter.1 (List.mem_reverse.1 hy)).1))
  · have hkeep : prB l a x = false := by
      unfold prB
      by_cases hx : x.f1 < a
      · rw [decide_eq_true hx]
        have hx2 := of_decide_eq_true h2
        have hhit : vpHit x.f0 a x = true := decide_eq_true ⟨rfl, by omega⟩
        have hpost : ∀ y ∈ post, vpHit x.f0 a y = false := fun y hy => by
          have := h3 y hy
          rw [hit_name hx2.1]
          exact decide_eq_false fun hh => (of_decide_eq_false this) ⟨hh.1, by omega⟩
        have hv := vp_at (pre := pre) hhit hpost
        rw [← h1] at hv
        rw [hv]
        simp [sameP]
      · rw [decide_eq_false hx]; rfl
    rw [h4]
    have hf : (l.filter fun x => !prB l a x) = (pre.filter fun x => !prB l a x) ++ x :: (post.filter fun x => !prB l a x) := by
      conv => lhs; rw [show l.filter (fun x => !prB l a x) = (pre ++ x :: post).filter (fun x => !prB l a x) from by rw [← h1]]
      rw [List.filter_append, List.filter_cons, hkeep]
      simp
    rw [hf]
    exact vp_at h2 (fun y hy => h3 y ((List.mem_filter.1 hy).1))
theorem prune_arch {l : List S30} (h : Arch l) (a : Int) : Arch (l.filter fun x => !prB l a x) :=
  ⟨⟨fun d hd => h.1.1 d ((List.mem_filter.1 hd).1), List.Pairwise.filter _ h.1.2⟩, Nat.le_trans (List.length_filter_le _ _) h.2⟩
end Go.Proofs.Ytgmmanppmjlclaa.Pure

/- The version that is valid at an hour: the program's answer and the reference's. -/
namespace Go.Proofs.Ytgmmanppmjlclaa.Pure
open Go.RowKit Go.Proofs.Ytgmmanppmjlclaa.P Go.Proofs.YtgmmanppmjlclaaW.PrintWords Go.Proofs.YtgmmanppmjlclaaW.PrintLast
set_option linter.unusedVariables false

open Classical in
noncomputable def validT (l : List S30) (n : ByteArray) (h : Int) : S30 × Bool := if archB l = true ∧ nameB (bs n) = true ∧ 0 ≤ h ∧ h ≤ 240 then vpOf n h l.reverse else (z30, false)
theorem valid_impl (l : List S30) (n : ByteArray) (h : Int) (hs : Sized l) (hn : n.size ≤ 1048576) : Ev (fun k => impl_ValidProduct.f k l n h) ((validT l n h).1.f0, (validT l n h).1.f1, (validT l n h).1.f2, (validT l n h).2) := by
  unfold impl_ValidProduct.f validT
  refine Ev.bind (isArchive l hs) (Ev.cases (fun h1 => ?_) (fun h1 => by rw [if_neg (fun h => h1 h.1)]; exact Ev.now _))
  refine Ev.bind (isName n (by omega)) (Ev.cases (fun h2 => ?_) (fun h2 => by rw [if_neg (fun h => h2 h.2.1)]; exact Ev.now _))
  refine Ev.bindc (withinP _ _ _) (Ev.cases (fun h3 => ?_) (fun h3 => by rw [if_neg (fun h => h3 (decide_eq_true h.2.2))]; exact Ev.now _))
  rw [if_pos ⟨h1, h2, of_decide_eq_true h3⟩]
  have hl := (archB_true.1 h1).2
  refine Ev.bindc (b := ((vpOf n h l.reverse).1.f0, (vpOf n h l.reverse).1.f1, (vpOf n h l.reverse).1.f2, (vpOf n h l.reverse).2)) (by unfold impl_validProduct.f; rw [if_pos (by omega)]) (Ev.now _)
theorem valid_spec (l : List S30) (n : ByteArray) (h : Int) (hs : Sized l) (hn : n.size ≤ 1048576) : Ev (fun k => spec_ValidProduct.f k l n h) ((validT l n h).1.f0, (validT l n h).1.f1, (validT l n h).1.f2, (validT l n h).2) := by
  unfold spec_ValidProduct.f validT
  refine Ev.bind (goodArchive l hs) (Ev.cases (fun h1 => ?_) (fun h1 => by rw [if_neg (fun h => h1 h.1)]; exact Ev.now _))
  refine Ev.bind (nameS n (by omega)) (Ev.cases (fun h2 => ?_) (fun h2 => by rw [if_neg (fun h => h2 h.2.1)]; exact Ev.now _))
  refine Ev.bindc (hourS _) (Ev.cases (fun h3 => ?_) (fun h3 => by rw [if_neg (fun h => h3 (by simp [h.2.2]))]; exact Ev.now _))
  rw [if_pos ⟨h1, h2, by simpa using h3⟩]
  have hl := (archB_true.1 h1).2
  have he := validEv l n h (by omega)
  refine Ev.bind he ?_
  rcases last_vp l n h with ⟨g1, g2⟩ | ⟨i, hi, g1, g2⟩
  · rw [g2]; exact Ev.pos g1 (Ev.now _)
  · rw [g2]
    rw [g1] at he ⊢
    refine Ev.neg (by omega) (Ev.bind he (Ev.pos (by omega) (Ev.pos (by omega) (Ev.const ?_))))
    rw [rdP_lt l i hi]
end Go.Proofs.Ytgmmanppmjlclaa.Pure

/- All names of an archive. -/
namespace Go.Proofs.Ytgmmanppmjlclaa.Pure
open Go.RowKit Go.Proofs.Ytgmmanppmjlclaa.P Go.Proofs.YtgmmanppmjlclaaW.PrintWords Go.Proofs.YtgmmanppmjlclaaW.PrintLast
set_option linter.unusedVariables false

def namL (l : List S30) : List ByteArray := compS (l.map (·.f0))
theorem namL_len (l : List S30) : (namL l).length ≤ l.length := by
  have := compS_len (l.map (·.f0))
  simpa [namL] using this
theorem nam_l0 (l : List S30) (hl : l.length ≤ 1048577) : ∀ (d i : Nat), l.length - i = d → i ≤ l.length →
    Ev (fun k => impl_namesOf.l0 k ((l.take i).map (·.f0)) l (l.length : Int) (i : Int)) (namL l) := by
  intro d
  induction d with
  | zero =>
    intro i hd hi
    refine Ev.step (fun k => by rw [impl_namesOf.l0]) ?_
    obtain rfl : i = l.length := by omega
    rw [List.take_length]
    exact Ev.neg (by omega) (Ev.bindc (b := namL l) rfl (Ev.now _))
  | succ d ih =>
    intro i hd hi
    have hlt : i < l.length := by omega
    refine Ev.step (fun k => by rw [impl_namesOf.l0]) ?_
    refine Ev.pos (by omega) (Ev.pos (by omega) (Ev.pos (by omega) (Ev.pos (by simp; omega) ?_)))
    rw [rdP_lt l i hlt, w64 (x := (i : Int) + 1) (by omega) (by omega), show (i : Int) + 1 = ((i + 1 : Nat) : Int) from by omega]
    have h := ih (i + 1) (by omega) (by omega)
    rw [take_succ' l i hlt, List.map_append] at h
    exact h
theorem namesOf (l : List S30) (hl : l.length ≤ 1048577) : Ev (fun k => impl_namesOf.f k l) (namL l) := by
  unfold impl_namesOf.f
  exact nam_l0 l hl _ 0 rfl (by omega)
open Go.Lib in
def namA (l : List S30) : Array (List UInt8) := ((l.map (·.f0)).map (·.data.toList)).toArray
theorem namA_get (l : List S30) (i : Nat) (h : i < l.length) : (namA l)[i]! = bs l[i].f0 := by
  unfold namA
  rw [getElem!_pos _ i (by simpa using h)]
  simp [bs]
open Go.Lib in
theorem namS_l0 (l : List S30) (hl : l.length ≤ 1048577) : ∀ (d i : Nat), l.length - i = d → i ≤ l.length →
    Ev (fun k => spec_l26Names.l0 k l ((compactUpTo (namA l) i).map unS) (i : Int)) (namL l) := by
  intro d
  induction d with
  | zero =>
    intro i hd hi
    refine Ev.step (fun k => by rw [spec_l26Names.l0]) ?_
    obtain rfl : i = l.length := by omega
    refine Ev.neg (by omega) (Ev.const ?_)
    unfold namL compS compact namA
    simp
  | succ d ih =>
    intro i hd hi
    have hlt : i < l.length := by omega
    have hcl : (compactUpTo (namA l) i).length ≤ i := by
      unfold compactUpTo
      rw [List.length_map]
      have := List.length_filter_le (keeps (namA l)) (List.range i)
      simpa using this
    have h := ih (i + 1) (by omega) (by omega)
    rw [compactUpTo_succ, List.map_append] at h
    have hun : unS (bs l[i].f0) = l[i].f0 := bs_inj rfl
    refine Ev.step (fun k => by rw [spec_l26Names.l0]) ?_
    rw [rdP_lt l i hlt, w64 (x := (i : Int) + 1) (by omega) (by omega), show (i : Int) + 1 = ((i + 1 : Nat) : Int) from by omega]
    have hkeep : keeps (namA l) i = true → Ev (fun k => spec_l26Names.l0 k l ((compactUpTo (namA l) i).map unS ++ [l[i].f0]) ((i + 1 : Nat) : Int)) (namL l) := fun hk => by
      rw [if_pos hk, namA_get l i hlt] at h
      simpa [hun] using h
    refine Ev.pos (by omega) (Ev.cases (fun h0 => ?_) (fun h0 => ?_))
    · have hi0 : i = 0 := by omega
      exact Ev.pos (by omega) (Ev.pos (by simp; omega) (hkeep (by unfold keeps; simp [hi0])))
    · have ew : wrap64 ((i : Int) - 1) = ((i - 1 : Nat) : Int) := by rw [w64 (by omega) (by omega)]; omega
      rw [ew, rdP_lt l (i - 1) (by omega), toList_bs, toList_bs]
      refine Ev.pos (by omega) (Ev.pos (by omega) (Ev.pos (by omega) (Ev.cases (fun h1 => ?_) (fun h1 => ?_))))
      · have hk : keeps (namA l) i = false := keeps_neg (by omega) (by rw [namA_get l i hlt, namA_get l (i - 1) (by omega)]; exact h1.symm)
        rw [hk] at h
        simpa using h
      · exact Ev.pos (by simp; omega) (hkeep (keeps_pos (by rw [namA_get l i hlt, namA_get l (i - 1) (by omega)]; exact fun e => h1 e.symm)))
theorem namesS (l : List S30) (hl : l.length ≤ 1048577) : Ev (fun k => spec_l26Names.f k l) (namL l) := by
  unfold spec_l26Names.f
  exact namS_l0 l hl _ 0 rfl (by omega)
end Go.Proofs.Ytgmmanppmjlclaa.Pure

/- The laws' helpers on lists of texts; NamesOf. -/
namespace Go.Proofs.Ytgmmanppmjlclaa.Pure
open Go.RowKit Go.Proofs.Ytgmmanppmjlclaa.P Go.Proofs.YtgmmanppmjlclaaW.PrintWords Go.Proofs.YtgmmanppmjlclaaW.PrintLast
set_option linter.unusedVariables false

theorem rdOf_lt (l : List ByteArray) (i : Nat) (h : i < l.length) : rdOf ByteArray.empty l (i : Int) = l[i] := by simp [rdOf, h]
noncomputable def namT (l : List S30) : List ByteArray × Bool := if archB l = true then (namL l, true) else ([], false)
theorem namT_len (l : List S30) : (namT l).1.length ≤ 20 := by
  unfold namT
  split
  · rename_i h
    have := (archB_true.1 h).2
    have := namL_len l
    simp only; omega
  · simp
theorem nam_impl (l : List S30) (hs : Sized l) : Ev (fun k => impl_NamesOf.f k l) (namT l) := by
  unfold impl_NamesOf.f namT
  refine Ev.bind (isArchive l hs) (Ev.cases (fun h1 => ?_) (fun h1 => ?_))
  · rw [if_pos h1]; exact Ev.bind (namesOf l hs.1) (Ev.now _)
  · rw [if_neg h1]; exact Ev.now _
theorem nam_spec (l : List S30) (hs : Sized l) : Ev (fun k => spec_NamesOf.f k l) (namT l) := by
  unfold spec_NamesOf.f namT
  refine Ev.bind (goodArchive l hs) (Ev.cases (fun h1 => ?_) (fun h1 => ?_))
  · rw [if_pos h1]; exact Ev.bind (namesS l hs.1) (Ev.now _)
  · rw [if_neg h1]; exact Ev.now _
end Go.Proofs.Ytgmmanppmjlclaa.Pure

/- The names whose valid version changed: the program strikes out of all names, the reference gathers. -/
namespace Go.Proofs.Ytgmmanppmjlclaa.Pure
open Go.RowKit Go.Proofs.Ytgmmanppmjlclaa.P Go.Proofs.YtgmmanppmjlclaaW.PrintWords Go.Proofs.YtgmmanppmjlclaaW.PrintLast
set_option linter.unusedVariables false

theorem changedS_l0 (l : List S30) (hl : l.length ≤ 1048577) (a b : Int) (ns : List ByteArray) (hn : ns.length ≤ 1048577) : ∀ (d i : Nat) (acc : List ByteArray), ns.length - i = d → i ≤ ns.length → acc.length ≤ i →
    Ev (fun k => spec_ChangedBetween.l0 k l a b acc ns (i : Int)) (acc ++ (ns.drop i).filter fun n => !cbB l a b n, true) := by
  intro d
  induction d with
  | zero =>
    intro i acc hd hi ha
    refine Ev.step (fun k => by rw [spec_ChangedBetween.l0]) ?_
    refine Ev.neg (by omega) (Ev.const ?_)
    rw [List.drop_of_length_le (by omega)]; simp
  | succ d ih =>
    intro i acc hd hi ha
    have hlt : i < ns.length := by omega
    refine Ev.step (fun k => by rw [spec_ChangedBetween.l0]) ?_
    refine Ev.pos (by omega) (Ev.pos (by omega) ?_)
    rw [rdOf_lt ns i hlt, w64 (x := (i : Int) + 1) (by omega) (by omega), show (i : Int) + 1 = ((i + 1 : Nat) : Int) from by omega, drop_cons' ns i hlt, List.filter_cons]
    have skip : cbB l a b ns[i] = true → Ev (fun k => spec_ChangedBetween.l0 k l a b acc ns ((i + 1 : Nat) : Int)) (acc ++ (if (!cbB l a b ns[i]) = true then ns[i] :: (ns.drop (i + 1)).filter (fun n => !cbB l a b n) else (ns.drop (i + 1)).filter fun n => !cbB l a b n), true) := fun hc => by
      rw [hc]
      exact ih (i + 1) acc (by omega) (by omega) (by omega)
    have take : cbB l a b ns[i] = false → Ev (fun k => spec_ChangedBetween.l0 k l a b (acc ++ [ns[i]]) ns ((i + 1 : Nat) : Int)) (acc ++ (if (!cbB l a b ns[i]) = true then ns[i] :: (ns.drop (i + 1)).filter (fun n => !cbB l a b n) else (ns.drop (i + 1)).filter fun n => !cbB l a b n), true) := fun hc => by
      rw [hc]
      exact Ev.eq (ih (i + 1) (acc ++ [ns[i]]) (by omega) (by omega) (by simp; omega)) (by simp)
    refine Ev.bind (validEv l ns[i] a hl) (Ev.bind (validEv l ns[i] b hl) ?_)
    rcases last_vp l ns[i] b with ⟨g1, g2⟩ | ⟨j, hj, g1, g2⟩
    · exact Ev.neg (by omega) (skip (by unfold cbB; rw [g2]; rfl))
    · rw [g1]
      refine Ev.pos (by omega) ?_
      rcases last_vp l ns[i] a with ⟨f1, f2⟩ | ⟨q, hq, f1, f2⟩
      · exact Ev.pos f1 (Ev.pos (by omega) (take (by unfold cbB; rw [g2, f2]; rfl)))
      · rw [f1]
        refine Ev.neg (by omega) (Ev.pos (by omega) (Ev.pos (by omega) (Ev.pos (by omega) (Ev.pos (by omega) ?_))))
        rw [rdP_lt l j hj, rdP_lt l q hq]
        refine Ev.cases (fun h => skip ?_) (fun h => Ev.pos (by omega) (take ?_))
        · unfold cbB; rw [g2, f2]; simp [h]
        · unfold cbB; rw [g2, f2]; simp [h]
noncomputable def changedT (l : List S30) (a b : Int) : List ByteArray × Bool := if archB l = true ∧ 0 ≤ a ∧ a ≤ b ∧ b ≤ 240 then ((namL l).filter fun n => !cbB l a b n, true) else ([], false)
theorem changedT_len (l : List S30) (a b : Int) : (changedT l a b).1.length ≤ 20 := by
  unfold changedT
  split
  · rename_i h
    have := (archB_true.1 h.1).2
    have := namL_len l
    have := List.length_filter_le (fun n => !cbB l a b n) (namL l)
    simp only; omega
  · simp
theorem changed_impl (l : List S30) (a b : Int) (hs : Sized l) : Ev (fun k => impl_ChangedBetween.f k l a b) (changedT l a b) := by
  unfold impl_ChangedBetween.f changedT
  refine Ev.bind (isArchive l hs) (Ev.cases (fun h1 => ?_) (fun h1 => by rw [if_neg (fun h => h1 h.1)]; exact Ev.now _))
  have hl := (archB_true.1 h1).2
  have hn := namL_len l
  refine Ev.cases (fun h2 => ?_) (fun h2 => by rw [if_neg (show ¬ (archB l = true ∧ 0 ≤ a ∧ a ≤ b ∧ b ≤ 240) from fun h => h2 h.2)]; exact Ev.now _)
  rw [if_pos (show archB l = true ∧ 0 ≤ a ∧ a ≤ b ∧ b ≤ 240 from ⟨h1, h2⟩)]
  exact Ev.bind (namesOf l (by omega)) (Ev.pos ⟨by omega, by omega⟩ (Ev.now _))
theorem changed_spec (l : List S30) (a b : Int) (hs : Sized l) : Ev (fun k => spec_ChangedBetween.f k l a b) (changedT l a b) := by
  unfold spec_ChangedBetween.f changedT
  simp only [Option.bind_some]
  have hbad : ∀ x, x = true → ¬ (archB l = true ∧ 0 ≤ a ∧ a ≤ b ∧ b ≤ 240) → Ev (fun k => spec_ChangedBetween.j0 k l a b [] x) (if archB l = true ∧ 0 ≤ a ∧ a ≤ b ∧ b ≤ 240 then ((namL l).filter fun n => !cbB l a b n, true) else ([], false)) := fun x hx hn => by
    subst hx
    rw [if_neg hn]
    refine Ev.step (fun k => by rw [spec_ChangedBetween.j0]) ?_
    exact Ev.pos rfl (Ev.now _)
  refine Ev.bind (goodArchive l hs) (Ev.cases (fun h1 => ?_) (fun h1 => hbad _ rfl (fun h => h1 h.1)))
  have hl := (archB_true.1 h1).2
  have hn := namL_len l
  refine Ev.bindc (hourS _) (Ev.cases (fun h2 => ?_) (fun h2 => hbad _ rfl (fun h => h2 (by simp; omega))))
  refine Ev.bindc (hourS _) (Ev.cases (fun h3 => ?_) (fun h3 => hbad _ rfl (fun h => h3 (by simp; omega))))
  have h2 : 0 ≤ a ∧ a ≤ 240 := by simpa using h2
  have h3 : 0 ≤ b ∧ b ≤ 240 := by simpa using h3
  by_cases h4 : a > b
  · rw [decide_eq_true h4]
    exact hbad _ rfl (fun h => by omega)
  · rw [decide_eq_false h4, if_pos ⟨h1, by omega, by omega, by omega⟩]
    refine Ev.step (fun k => by rw [spec_ChangedBetween.j0]) ?_
    refine Ev.neg (by decide) (Ev.bind (namesS l (by omega)) (Ev.eq (changedS_l0 l (by omega) a b (namL l) (by omega) _ 0 [] rfl (by omega) (by simp)) (by simp)))
end Go.Proofs.Ytgmmanppmjlclaa.Pure

/- The laws' own comparisons of archives and texts. -/
namespace Go.Proofs.Ytgmmanppmjlclaa.Pure
open Go.RowKit Go.Proofs.Ytgmmanppmjlclaa.P Go.Proofs.YtgmmanppmjlclaaW.PrintWords Go.Proofs.YtgmmanppmjlclaaW.PrintLast
set_option linter.unusedVariables false

theorem rArchives_l0 (a : List S30) (hl : a.length ≤ 1048576) : ∀ (d i : Nat), a.length - i = d → i ≤ a.length → Ev (fun k => laws_rArchives.l0 k a a (i : Int)) true := by
  intro d
  induction d with
  | zero =>
    intro i hd hi
    refine Ev.step (fun k => by rw [laws_rArchives.l0]) ?_
    exact Ev.neg (by omega) (Ev.now _)
  | succ d ih =>
    intro i hd hi
    refine Ev.step (fun k => by rw [laws_rArchives.l0]) ?_
    refine Ev.pos (by omega) (Ev.pos (by omega) (Ev.pos (by omega) (Ev.neg (by simp) ?_)))
    rw [w64 (by omega) (by omega), show (i : Int) + 1 = ((i + 1 : Nat) : Int) from by omega]
    exact ih (i + 1) (by omega) (by omega)
theorem rArchives_refl (a : List S30) (hl : a.length ≤ 1048576) : Ev (fun k => laws_rArchives.f k a a) true := by
  unfold laws_rArchives.f
  exact Ev.pos rfl (rArchives_l0 a hl _ 0 rfl (by omega))
theorem rTexts_l0 (a : List ByteArray) (hl : a.length ≤ 1048576) : ∀ (d i : Nat), a.length - i = d → i ≤ a.length → Ev (fun k => laws_rTexts.l0 k a a (i : Int)) true := by
  intro d
  induction d with
  | zero =>
    intro i hd hi
    refine Ev.step (fun k => by rw [laws_rTexts.l0]) ?_
    exact Ev.neg (by omega) (Ev.now _)
  | succ d ih =>
    intro i hd hi
    refine Ev.step (fun k => by rw [laws_rTexts.l0]) ?_
    refine Ev.pos (by omega) (Ev.pos (by omega) (Ev.pos (by omega) (Ev.pos rfl ?_)))
    rw [w64 (by omega) (by omega), show (i : Int) + 1 = ((i + 1 : Nat) : Int) from by omega]
    exact ih (i + 1) (by omega) (by omega)
theorem rTexts_refl (a : List ByteArray) (hl : a.length ≤ 1048576) : Ev (fun k => laws_rTexts.f k a a) true := by
  unfold laws_rTexts.f
  exact Ev.pos rfl (rTexts_l0 a hl _ 0 rfl (by omega))
end Go.Proofs.Ytgmmanppmjlclaa.Pure

namespace Go.Proofs.Ytgmmanppmjlclaa.Pure
open Go.RowKit Go.Proofs.Ytgmmanppmjlclaa.P Go.Proofs.YtgmmanppmjlclaaW.PrintWords Go.Proofs.YtgmmanppmjlclaaW.PrintLast
set_option linter.unusedVariables false

/-- A name is the name of a product. -/
theorem namL_mem {l : List S30} {n : ByteArray} (h : n ∈ namL l) : ∃ x ∈ l, x.f0 = n := by
  unfold namL compS Lib.compact Lib.compactUpTo at h
  obtain ⟨b, hb, rfl⟩ := List.mem_map.1 h
  obtain ⟨i, hi, rfl⟩ := List.mem_map.1 hb
  have hi2 := List.mem_range.1 (List.mem_filter.1 hi).1
  have hi3 : i < l.length := by simpa using hi2
  refine ⟨l[i], List.getElem_mem hi3, ?_⟩
  have := namA_get l i hi3
  unfold namA at this
  rw [this]
  exact bs_inj rfl
theorem validT_of {l : List S30} {n : ByteArray} {h : Int} (h1 : archB l = true) (h2 : nameB (bs n) = true) (h3 : 0 ≤ h ∧ h ≤ 240) : validT l n h = vpOf n h l.reverse := by
  unfold validT; rw [if_pos ⟨h1, h2, h3⟩]
theorem arch_name {l : List S30} (hA : Arch l) {n : ByteArray} (h : n ∈ namL l) : nameB (bs n) = true ∧ n.size ≤ 1000 := by
  obtain ⟨x, hx, rfl⟩ := namL_mem h
  refine ⟨?_, ((arch_small hA).2 x hx).1⟩
  have h1 := hA.1.1 x hx
  unfold prodB at h1
  simp only [Bool.and_eq_true] at h1
  exact h1.1
theorem prun_l2 {l0 : List Int} (hc : Code l0) (c : List S30) (hs : Small c) (f t : Int) (ns : List ByteArray) (hn : ns.length ≤ 20)
    (hns : ∀ n ∈ ns, n.size ≤ 1000 ∧ (validT c n t).2 = true ∧ ((validT c n f).2 = true → ¬ (validT c n f).1.f2.toList = (validT c n t).1.f2.toList)) : ∀ (d i : Nat), ns.length - i = d → i ≤ ns.length →
    Ev (fun k => laws_FnPruning.l2 k l0 c f t ns (i : Int)) true := by
  intro d
  induction d with
  | zero =>
    intro i hd hi
    obtain ⟨r, n, h, e, hr, hnz⟩ := drawValid hc
    refine Ev.step (fun k => by rw [laws_FnPruning.l2]) ?_
    refine Ev.neg (by omega) (Ev.bind e (Ev.bind (valid_impl r n h hr.sized (by omega)) (Ev.bind (valid_spec r n h hr.sized (by omega)) (Ev.pos (by simp) (Ev.const (by simp))))))
  | succ d ih =>
    intro i hd hi
    have hlt : i < ns.length := by omega
    obtain ⟨h1, h2, h3⟩ := hns ns[i] (List.getElem_mem _)
    refine Ev.step (fun k => by rw [laws_FnPruning.l2]) ?_
    rw [rdOf_lt ns i hlt, w64 (x := (i : Int) + 1) (by omega) (by omega), show (i : Int) + 1 = ((i + 1 : Nat) : Int) from by omega]
    have hih := ih (i + 1) (by omega) (by omega)
    exact Ev.pos (by omega) (Ev.pos (by omega) (Ev.bind (valid_impl c ns[i] t hs.sized (by omega)) (Ev.bind (valid_impl c ns[i] f hs.sized (by omega)) (Ev.pos h2 (Ev.cases (fun h4 => Ev.neg (h3 h4) hih) (fun _ => hih))))))
theorem prun_tail {l0 : List Int} (hc : Code l0) (a : List S30) (hour : Int) (b : List S30) (o : Bool) (ns : List ByteArray) (i : Int) : Ev (fun k => laws_FnPruning.j3 k l0 a hour b o ns i false) true := by
  obtain ⟨c, f, t, e, hs⟩ := drawChanged hc
  have hlen := changedT_len c f t
  refine Ev.step (fun k => by rw [laws_FnPruning.j3]) ?_
  refine Ev.neg (by simp) (Ev.bind e (Ev.bind (changed_impl c f t hs.sized) (Ev.bind (changed_spec c f t hs.sized) (Ev.neg (by simp) (Ev.bind (rTexts_refl _ (by omega)) ?_)))))
  refine Ev.step (fun k => by rw [laws_FnPruning.j5]) ?_
  refine Ev.neg (by simp) (prun_l2 hc c hs f t _ hlen ?_ _ 0 rfl (by omega))
  intro n hn
  unfold changedT at hn
  by_cases hcd : archB c = true ∧ 0 ≤ f ∧ f ≤ t ∧ t ≤ 240
  · rw [if_pos hcd] at hn
    obtain ⟨hn1, hn2⟩ := List.mem_filter.1 hn
    have hA := archB_true.1 hcd.1
    obtain ⟨g1, g2⟩ := arch_name hA hn1
    rw [validT_of hcd.1 g1 ⟨by omega, by omega⟩, validT_of hcd.1 g1 ⟨by omega, by omega⟩]
    unfold cbB at hn2
    refine ⟨g2, ?_, ?_⟩
    · cases h : (vpOf n t c.reverse).2 with
      | true => rfl
      | false => rw [h] at hn2; simp at hn2
    · intro h1 h2
      rw [h1, h2] at hn2
      simp at hn2
  · rw [if_neg hcd] at hn; simp at hn
theorem prun_l1 {l0 : List Int} (a : List S30) (hs : Small a) (hour : Int) (b : List S30) (hb : Small b) (ns : List ByteArray) (i : Nat) (hi : i < ns.length) (hz : ns[i].size ≤ 1000) (hl : ns.length ≤ 20)
    (hv : ∀ h, hour ≤ h → validT b ns[i] h = validT a ns[i] h) (next : Ev (fun k => laws_FnPruning.l0 k l0 a hour b true ns ((i + 1 : Nat) : Int)) true) : ∀ (n : Nat) (h : Int), 241 - h ≤ n → hour ≤ h → 0 ≤ h → h ≤ 300 →
    Ev (fun k => laws_FnPruning.l1 k l0 a hour b true ns (i : Int) h) true := by
  have hend : ∀ h, ¬ h ≤ 240 → Ev (fun k => laws_FnPruning.l1 k l0 a hour b true ns (i : Int) h) true := fun h hh => by
    refine Ev.step (fun k => by rw [laws_FnPruning.l1]) ?_
    rw [w64 (x := (i : Int) + 1) (by omega) (by omega), show (i : Int) + 1 = ((i + 1 : Nat) : Int) from by omega]
    exact Ev.neg hh next
  intro n
  induction n with
  | zero =>
    intro h h0 h1 h2 h3
    exact hend h (by omega)
  | succ n ih =>
    intro h h0 h1 h2 h3
    by_cases hh : h ≤ 240
    · have e1 := valid_impl a ns[i] h hs.sized (by omega)
      have e2 := valid_impl b ns[i] h hb.sized (by omega)
      rw [hv h h1] at e2
      refine Ev.step (fun k => by rw [laws_FnPruning.l1]) ?_
      rw [rdOf_lt ns i hi, w64 (x := h + 30) (by omega) (by omega)]
      exact Ev.pos hh (Ev.pos (by omega) (Ev.pos (by omega) (Ev.bind e1 (Ev.bind e2 (Ev.neg (by simp) (Ev.neg (by simp) (ih (h + 30) (by omega) (by omega) (by omega) (by omega))))))))
    · exact hend h hh
theorem prun_l0 {l0 : List Int} (hc : Code l0) (a : List S30) (hs : Small a) (hour : Int) (h0 : 0 ≤ hour ∧ hour ≤ 240) (b : List S30) (hb : Small b) (ns : List ByteArray) (hl : ns.length ≤ 20) (hz : ∀ n ∈ ns, n.size ≤ 1000)
    (hv : ∀ n h, hour ≤ h → validT b n h = validT a n h) : ∀ (d i : Nat), ns.length - i = d → i ≤ ns.length → Ev (fun k => laws_FnPruning.l0 k l0 a hour b true ns (i : Int)) true := by
  intro d
  induction d with
  | zero =>
    intro i hd hi
    refine Ev.step (fun k => by rw [laws_FnPruning.l0]) ?_
    exact Ev.neg (by omega) (prun_tail hc a hour b true ns i)
  | succ d ih =>
    intro i hd hi
    have hlt : i < ns.length := by omega
    refine Ev.step (fun k => by rw [laws_FnPruning.l0]) (Ev.pos (by omega) ?_)
    refine Ev.step (fun k => by rw [laws_FnPruning.j3]) (Ev.pos rfl ?_)
    exact prun_l1 a hs hour b hb ns i hlt (hz _ (List.getElem_mem _)) hl (hv ns[i]) (ih (i + 1) (by omega) (by omega)) 241 hour (by omega) (by omega) h0.1 (by omega)
theorem FnPruning : laws_FnPruning.Pure := by
  intro l0 _ _ hwf
  apply Ev.rounds
  have hc : Code l0 := code_of hwf
  unfold laws_FnPruning.f
  refine Ev.bindc (show laws_rBig.f l0 = some (decide ((l0.length : Int) > 65536)) from rfl) ?_
  refine Ev.cases (fun _ => Ev.now _) (fun _ => ?_)
  obtain ⟨a, hour, hd, hs⟩ := drawPrune hc
  have hn := pruneT_len a hour
  refine Ev.bind hd (Ev.bind (prune_impl a hour hs.sized) (Ev.bind (prune_spec a hour hs.sized) (Ev.neg (by simp) (Ev.bind (rArchives_refl _ (by omega)) ?_))))
  refine Ev.step (fun k => by rw [laws_FnPruning.j0]) (Ev.neg (by simp) ?_)
  have hn2 := namT_len a
  refine Ev.bind (nam_impl a hs.sized) (Ev.bind (nam_spec a hs.sized) (Ev.neg (by simp) (Ev.bind (rTexts_refl _ (by omega)) ?_)))
  refine Ev.step (fun k => by rw [laws_FnPruning.j1]) (Ev.neg (by simp) ?_)
  simp only
  by_cases hh : archB a = true ∧ 0 ≤ hour ∧ hour ≤ 240
  · have e1 : pruneT a hour = (a.filter fun x => !prB a hour x, true) := by unfold pruneT; rw [if_pos hh]
    have e2 : namT a = (namL a, true) := by unfold namT; rw [if_pos hh.1]
    have hA := archB_true.1 hh.1
    have hB := prune_arch hA hour
    simp only [e1, e2]
    rw [e2] at hn2
    refine prun_l0 hc a hs hour hh.2 _ (arch_small hB) (namL a) hn2 (fun n h => (arch_name hA h).2) (fun n h hle => ?_) _ 0 rfl (by omega)
    unfold validT
    rw [prune_valid a hour h hle n, archB_true.2 hB, hh.1]
  · have e1 : pruneT a hour = ([], false) := by unfold pruneT; rw [if_neg hh]
    simp only [e1]
    refine Ev.step (fun k => by rw [laws_FnPruning.l0]) (Ev.cases (fun _ => prun_tail hc a hour [] false _ 0) (fun _ => prun_tail hc a hour [] false _ 0))
end Go.Proofs.Ytgmmanppmjlclaa.Pure
