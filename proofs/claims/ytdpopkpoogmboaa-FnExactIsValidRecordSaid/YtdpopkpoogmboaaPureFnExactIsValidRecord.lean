/- The program's IsValidRecord returns what the reference's returns, for all arguments. Conditions: none beyond the given statement's. -/
import Derived.Test.YtdpopkpoogmboaaPx0
import Derived.Test.YtdpopkpoogmboaaPx1
import Derived.Test.YtdpopkpoogmboaaPx3
import Derived.Test.YtdpopkpoogmboaaPx2
import Derived.Test.YtdpopkpoogmboaaPx4
/- Small laws on "with enough rounds the function answers r" (Ev) and on wrapping sums; used by every plain law of this seat. -/
namespace Go.Proofs.Ytdpopkpoogmboaa.Pure
open Go.RowKit Go.Proofs.YtdpopkpoogmboaaW.PrintWords Go.Proofs.YtdpopkpoogmboaaW.PrintLast

section
variable {α β : Type} {r : α} {f g : Nat → Option α}
theorem Ev.pos {c : Prop} [Decidable c] (h : c) (e : Ev f r) : Ev (fun k => if c then f k else g k) r := e.congr fun _ => if_pos h
theorem Ev.neg {c : Prop} [Decidable c] (h : ¬ c) (e : Ev g r) : Ev (fun k => if c then f k else g k) r := e.congr fun _ => if_neg h
theorem Ev.const {a : Option α} (h : a = some r) : Ev (fun _ => a) r := ⟨0, fun _ _ => h⟩
theorem Ev.bindc {a : Option β} {b : β} {f : Nat → β → Option α} (h : a = some b) (k : Ev (fun n => f n b) r) : Ev (fun n => a.bind (f n)) r := Ev.bind (Ev.const h) k
theorem Ev.eq {r' : α} (h : Ev f r) (e : r = r') : Ev f r' := e ▸ h
theorem Ev.cases {c : Prop} [Decidable c] (h1 : c → Ev f r) (h2 : ¬ c → Ev g r) : Ev (fun k => if c then f k else g k) r := by
  by_cases h : c
  · exact Ev.pos h (h1 h)
  · exact Ev.neg h (h2 h)
/-- Two answers of one function are one. -/
theorem Ev.uniq {r' : α} (h : Ev f r) (h' : Ev f r') : r = r' := by
  obtain ⟨K, hK⟩ := h
  obtain ⟨K', hK'⟩ := h'
  have a := hK (max K K') (Nat.le_max_left _ _)
  have b := hK' (max K K') (Nat.le_max_right _ _)
  rw [a] at b
  exact Option.some.inj b
end

theorem w64 {x : Int} (h1 : -9223372036854775808 ≤ x) (h2 : x ≤ 9223372036854775807) : wrap64 x = x := by unfold wrap64; omega

theorem rd_nat (l : List Int) (i : Nat) : rd l (i : Int) = l.getD i 0 := by simp [rd]
theorem rd_lt (l : List Int) (i : Nat) (h : i < l.length) : rd l (i : Int) = l[i] := by simp [rd, h]
theorem take_succ' {α : Type} (l : List α) (i : Nat) (h : i < l.length) : l.take (i + 1) = l.take i ++ [l[i]] := by
  rw [List.take_succ_eq_append_getElem h]
theorem drop_cons' {α : Type} (l : List α) (i : Nat) (h : i < l.length) : l.drop i = l[i] :: l.drop (i + 1) := List.drop_eq_getElem_cons h
end Go.Proofs.Ytdpopkpoogmboaa.Pure

/- Texts as lists of bytes: joins, cuts, single bytes, equality. -/
namespace Go.Proofs.Ytdpopkpoogmboaa.Pure
open Go.RowKit Go.Proofs.Ytdpopkpoogmboaa.P Go.Proofs.YtdpopkpoogmboaaW.PrintWords Go.Proofs.YtdpopkpoogmboaaW.PrintLast

def bs (s : ByteArray) : List UInt8 := s.data.toList
theorem bs_size (s : ByteArray) : (bs s).length = s.size := by rw [bs, Array.length_toList]; rfl
theorem bs_inj {s t : ByteArray} (h : bs s = bs t) : s = t := by
  cases s; cases t; simp [bs] at h; rw [h]
theorem bs_mk (l : List UInt8) : bs ⟨l.toArray⟩ = l := by simp [bs]
theorem mk_bs (s : ByteArray) : (⟨(bs s).toArray⟩ : ByteArray) = s := bs_inj (bs_mk _)
theorem bs_append (s t : ByteArray) : bs (s ++ t) = bs s ++ bs t := by simp [bs]
theorem bs_extract (s : ByteArray) (i j : Nat) : bs (s.extract i j) = ((bs s).drop i).take (j - i) := by simp [bs, List.take_drop]
theorem toList_bs (s : ByteArray) : s.toList = bs s := ByteArray.toList_eq s
theorem size_mk (l : List UInt8) : (⟨l.toArray⟩ : ByteArray).size = l.length := by rw [← bs_size, bs_mk]
theorem bt_bs (s : ByteArray) (i : Nat) (h : i < (bs s).length) : bt s (i : Int) = (((bs s)[i]).toNat : Int) := by
  have h2 : ((i : Int)).toNat < s.size := by rw [bs_size] at h; simpa using h
  rw [← bt_at s (i : Int) h2]
  simp [bs]
  rfl
theorem bs_one (c : UInt8) : bs ⟨#[c]⟩ = [c] := rfl
theorem bs_nil : bs ⟨#[]⟩ = [] := rfl
theorem l1In_f (x a b : Int) : spec_l1In.f x a b = some (decide (a ≤ x) && decide (x ≤ b)) := by
  unfold spec_l1In.f
  by_cases h : x ≥ a
  · simp [h]
  · simp [h]
theorem within_f (x a b : Int) : impl_within.f x a b = some (decide (a ≤ x) && decide (x ≤ b)) := by
  unfold impl_within.f
  by_cases h : x ≥ a
  · simp [h]
  · simp [h]

end Go.Proofs.Ytdpopkpoogmboaa.Pure

/- Log records: the tests of the program and of the reference. -/
namespace Go.Proofs.Ytdpopkpoogmboaa.Pure
open Go.RowKit Go.Proofs.Ytdpopkpoogmboaa.P Go.Proofs.YtdpopkpoogmboaaW.PrintWords Go.Proofs.YtdpopkpoogmboaaW.PrintLast

def plainB (l : List UInt8) : Bool := l.all fun b => decide (32 ≤ b.toNat) && decide (b.toNat ≤ 126)
theorem containsAny_any (cs : List UInt8) : ∀ l : List UInt8, Lib.containsAny l cs = l.any fun b => cs.contains b
  | [] => rfl
  | b :: l => by
    have ih := containsAny_any cs l
    have h0 := Lib.indexAny_ge cs l
    unfold Lib.containsAny at ih ⊢
    rw [List.any_cons, ← ih, Lib.indexAny]
    cases hc : cs.contains b
    · rw [if_neg (by simp), Bool.false_or]
      by_cases h : Lib.indexAny l cs = -1
      · rw [h]; rfl
      · rw [if_neg (by simpa using h)]
        exact decide_eq_decide.mpr (by omega)
    · rw [if_pos rfl, Bool.true_or]; rfl
theorem plain_ascii {s : ByteArray} (h : plainB (bs s) = true) : asciiB s = true := by
  refine List.all_eq_true.mpr fun b hb => ?_
  have := List.all_eq_true.mp h b hb
  simp only [Bool.and_eq_true, decide_eq_true_eq] at this ⊢
  omega
theorem isPrinted_l0 (s w : ByteArray) (hs : s.size < 4294967281) (hw : asciiB w = true) (hw2 : w.size < 4294967281) : ∀ (d i : Nat), s.size - i = d → i ≤ s.size → plainB ((bs s).take i) = true →
    Ev (fun k => impl_isPrinted.l0 k s w (i : Int)) (plainB ((bs s).drop i) && !(bs s).any fun b => (bs w).contains b) := by
  have hl := bs_size s
  intro d
  induction d with
  | zero =>
    intro i hd hi hp
    rw [List.take_of_length_le (by omega)] at hp
    refine Ev.step (fun k => by rw [impl_isPrinted.l0]) ?_
    refine Ev.neg (by omega) (Ev.bindc (b := (bs s).any fun b => (bs w).contains b) ?_ (Ev.const ?_))
    · unfold strings_ContainsAny.f
      rw [if_pos (by rw [plain_ascii hp, hw]; simp; omega)]
      exact congrArg some (containsAny_any _ _)
    · rw [List.drop_of_length_le (by omega)]; rfl
  | succ d ih =>
    intro i hd hi hp
    have hb := bt_bs s i (by omega)
    have hc : (bs s).drop i = (bs s)[i]'(by omega) :: (bs s).drop (i + 1) := List.drop_eq_getElem_cons (by omega)
    refine Ev.step (fun k => by rw [impl_isPrinted.l0]) ?_
    refine Ev.pos (by omega) (Ev.pos (by omega) ?_)
    rw [hc, hb, w64 (by omega) (by omega), show (i : Int) + 1 = ((i + 1 : Nat) : Int) from by omega]
    have e1 : plainB ((bs s)[i]'(by omega) :: (bs s).drop (i + 1)) = ((decide (32 ≤ ((bs s)[i]'(by omega)).toNat) && decide (((bs s)[i]'(by omega)).toNat ≤ 126)) && plainB ((bs s).drop (i + 1))) := List.all_cons
    refine Ev.cases (fun h => ?_) (fun h => Ev.cases (fun h2 => ?_) (fun h2 => ?_))
    · exact Ev.const (by rw [e1, decide_eq_false (by omega)]; rfl)
    · exact Ev.const (by rw [e1, decide_eq_false (show ¬ ((bs s)[i]'(by omega)).toNat ≤ 126 by omega), Bool.and_false]; rfl)
    · refine Ev.eq (ih (i + 1) (by omega) (by omega) ?_) ?_
      · rw [List.take_succ_eq_append_getElem (by omega)]
        unfold plainB at hp ⊢
        rw [List.all_append, hp]
        simp only [List.all_cons, List.all_nil, Bool.and_true, Bool.true_and, Bool.and_eq_true, decide_eq_true_eq]
        omega
      · rw [e1, decide_eq_true (by omega), decide_eq_true (by omega)]; rfl
theorem isPrinted (s w : ByteArray) (hs : s.size < 4294967281) (hw : asciiB w = true) (hw2 : w.size < 4294967281) : Ev (fun k => impl_isPrinted.f k s w) (plainB (bs s) && !(bs s).any fun b => (bs w).contains b) := by
  unfold impl_isPrinted.f
  exact isPrinted_l0 s w hs hw hw2 _ 0 rfl (by omega) rfl
def cmdB (c : List UInt8) : Bool := (decide (1 ≤ (c.length : Int)) && decide ((c.length : Int) ≤ 160)) && (plainB c && !c.any fun b => ([35, 64] : List UInt8).contains b)
def recB (c r : List UInt8) : Bool := cmdB c && (decide ((r.length : Int) ≤ 200) && (plainB r && !r.any fun b => ([35] : List UInt8).contains b))
theorem isCommand (s : ByteArray) : Ev (fun k => impl_isCommand.f k s) (cmdB (bs s)) := by
  unfold impl_isCommand.f cmdB
  rw [bs_size]
  refine Ev.bindc (within_f _ _ _) ?_
  refine Ev.cases (fun h => ?_) (fun h => ?_)
  · simp only [Bool.and_eq_true, decide_eq_true_eq] at h
    refine Ev.bind (isPrinted s _ (by omega) (by decide) (by decide)) (Ev.const ?_)
    rw [decide_eq_true h.1, decide_eq_true h.2]; rfl
  · exact Ev.const (by rw [Bool.eq_false_iff.mpr h]; rfl)
theorem isValidRecord (c r : ByteArray) : Ev (fun k => impl_IsValidRecord.f k c r) (recB (bs c) (bs r)) := by
  unfold impl_IsValidRecord.f recB
  refine Ev.bind (isCommand c) ?_
  refine Ev.cases (fun h => ?_) (fun h => ?_)
  · rw [h, bs_size r, Bool.true_and]
    refine Ev.cases (fun h2 => ?_) (fun h2 => ?_)
    · refine Ev.bind (isPrinted r _ (by omega) (by decide) (by decide)) (Ev.const ?_)
      rw [decide_eq_true h2]; rfl
    · exact Ev.const (by rw [decide_eq_false h2]; rfl)
  · exact Ev.const (by rw [Bool.eq_false_iff.mpr h]; rfl)

/-! ### the reference's tests -/
theorem l27Plain_l0 (s : ByteArray) (m : Int) (hs : s.size ≤ 4611686018427387904) : ∀ (d i : Nat), s.size - i = d → i ≤ s.size →
    Ev (fun k => spec_l27Plain.l0 k s m (i : Int)) ((plainB ((bs s).drop i) && !((bs s).drop i).any fun b => ([35] : List UInt8).contains b) && decide ((s.size : Int) ≤ m)) := by
  have hl := bs_size s
  intro d
  induction d with
  | zero =>
    intro i hd hi
    refine Ev.step (fun k => by rw [spec_l27Plain.l0]) ?_
    refine Ev.neg (by omega) (Ev.const ?_)
    rw [List.drop_of_length_le (by omega)]; rfl
  | succ d ih =>
    intro i hd hi
    have hb := bt_bs s i (by omega)
    have hc : (bs s).drop i = (bs s)[i]'(by omega) :: (bs s).drop (i + 1) := List.drop_eq_getElem_cons (by omega)
    have hlt := ((bs s)[i]'(by omega)).toNat_lt
    refine Ev.step (fun k => by rw [spec_l27Plain.l0]) ?_
    refine Ev.pos (by omega) (Ev.pos (by omega) (Ev.bindc (l1In_f _ _ _) ?_))
    have e1 : plainB ((bs s)[i]'(by omega) :: (bs s).drop (i + 1)) = ((decide (32 ≤ ((bs s)[i]'(by omega)).toNat) && decide (((bs s)[i]'(by omega)).toNat ≤ 126)) && plainB ((bs s).drop (i + 1))) := List.all_cons
    rw [hc, hb, w64 (x := ((((bs s)[i]'(by omega)).toNat : Nat) : Int)) (by omega) (by omega), w64 (x := (i : Int) + 1) (by omega) (by omega), show (i : Int) + 1 = ((i + 1 : Nat) : Int) from by omega]
    refine Ev.cases (fun h => ?_) (fun h => ?_)
    · simp only [Bool.and_eq_true, decide_eq_true_eq] at h
      refine Ev.cases (fun h2 => ?_) (fun h2 => ?_)
      · have h3 : (bs s)[i]'(by omega) = 35 := UInt8.toNat_inj.mp (by have : ((35 : UInt8)).toNat = 35 := rfl; omega)
        exact Ev.const (by rw [h3]; simp)
      · have h3 : ([35] : List UInt8).contains ((bs s)[i]'(by omega)) = false := by
          simp only [List.contains_cons, List.contains_nil, Bool.or_false, beq_eq_false_iff_ne]
          intro e; rw [e] at h2; exact h2 rfl
        refine Ev.eq (ih (i + 1) (by omega) (by omega)) ?_
        rw [e1, decide_eq_true (show 32 ≤ ((bs s)[i]'(by omega)).toNat by omega), decide_eq_true (show ((bs s)[i]'(by omega)).toNat ≤ 126 by omega), List.any_cons, h3]; rfl
    · refine Ev.const ?_
      have : (decide (32 ≤ ((bs s)[i]'(by omega)).toNat) && decide (((bs s)[i]'(by omega)).toNat ≤ 126)) = false := by
        rw [Bool.eq_false_iff]; intro h2
        simp only [Bool.and_eq_true, decide_eq_true_eq] at h2 h
        omega
      rw [e1, this]; rfl
theorem l27Plain (s : ByteArray) (m : Int) (hs : s.size ≤ 4611686018427387904) : Ev (fun k => spec_l27Plain.f k s m) ((plainB (bs s) && !(bs s).any fun b => ([35] : List UInt8).contains b) && decide ((s.size : Int) ≤ m)) := by
  unfold spec_l27Plain.f
  exact l27Plain_l0 s m hs _ 0 rfl (by omega)
theorem l1Stands_l0 (s : ByteArray) (x : UInt8) (hs : s.size ≤ 4611686018427387904) : ∀ (d i : Nat), s.size - i = d → i ≤ s.size → Ev (fun k => spec_l1Stands.l0 k s (x.toNat : Int) (i : Int)) (((bs s).drop i).any fun b => b == x) := by
  have hl := bs_size s
  intro d
  induction d with
  | zero =>
    intro i hd hi
    refine Ev.step (fun k => by rw [spec_l1Stands.l0]) ?_
    refine Ev.neg (by omega) (Ev.const ?_)
    rw [List.drop_of_length_le (by omega)]; rfl
  | succ d ih =>
    intro i hd hi
    have hb := bt_bs s i (by omega)
    have hc : (bs s).drop i = (bs s)[i]'(by omega) :: (bs s).drop (i + 1) := List.drop_eq_getElem_cons (by omega)
    refine Ev.step (fun k => by rw [spec_l1Stands.l0]) ?_
    refine Ev.pos (by omega) (Ev.pos (by omega) ?_)
    rw [hc, hb, w64 (x := (i : Int) + 1) (by omega) (by omega), show (i : Int) + 1 = ((i + 1 : Nat) : Int) from by omega, List.any_cons]
    refine Ev.cases (fun h => ?_) (fun h => ?_)
    · have h3 : (bs s)[i]'(by omega) = x := UInt8.toNat_inj.mp (by omega)
      exact Ev.const (by rw [h3]; simp)
    · have h3 : ((bs s)[i]'(by omega) == x) = false := by
        rw [beq_eq_false_iff_ne]; intro e; rw [e] at h; exact h rfl
      exact Ev.eq (ih (i + 1) (by omega) (by omega)) (by rw [h3]; rfl)
theorem l1Stands (s : ByteArray) (x : UInt8) (hs : s.size ≤ 4611686018427387904) : Ev (fun k => spec_l1Stands.f k s (x.toNat : Int)) ((bs s).any fun b => b == x) := by
  unfold spec_l1Stands.f
  exact l1Stands_l0 s x hs _ 0 rfl (by omega)
theorem any_two (l : List UInt8) : (l.any fun b => ([35, 64] : List UInt8).contains b) = ((l.any fun b => ([35] : List UInt8).contains b) || l.any fun b => b == 64) := by
  induction l with
  | nil => rfl
  | cons b l ih =>
    have e1 : ([35, 64] : List UInt8).contains b = ((b == 35) || (b == 64)) := by simp only [List.contains_cons, List.contains_nil, Bool.or_false]
    have e2 : ([35] : List UInt8).contains b = (b == 35) := by simp only [List.contains_cons, List.contains_nil, Bool.or_false]
    rw [List.any_cons, List.any_cons, List.any_cons, ih, e1, e2]
    generalize (l.any fun b => ([35] : List UInt8).contains b) = p
    generalize (l.any fun b => b == 64) = q
    cases (b == 35) <;> cases (b == 64) <;> cases p <;> cases q <;> rfl
theorem l27Good (c r : ByteArray) (hc : c.size ≤ 4611686018427387904) (hr : r.size ≤ 4611686018427387904) : Ev (fun k => spec_l27Good.f k c r) (recB (bs c) (bs r)) := by
  unfold spec_l27Good.f recB cmdB
  rw [toList_bs, any_two]
  refine Ev.cases (fun h => ?_) (fun h => ?_)
  · exact Ev.const (by rw [h]; rfl)
  · have h1 : decide (1 ≤ ((bs c).length : Int)) = true := by
      have := List.length_pos_iff.mpr h
      exact decide_eq_true (by omega)
    rw [h1, Bool.true_and, bs_size, bs_size]
    refine Ev.bind (l27Plain c 160 hc) ?_
    generalize plainB (bs c) = p
    generalize ((bs c).any fun b => ([35] : List UInt8).contains b) = q
    generalize decide ((c.size : Int) ≤ 160) = z
    refine Ev.cases (fun h2 => ?_) (fun h2 => ?_)
    · refine Ev.bind (l1Stands c 64 hc) ?_
      generalize ((bs c).any fun b => b == 64) = y
      refine Ev.cases (fun h3 => ?_) (fun h3 => ?_)
      · exact Ev.const (by rw [h3]; cases p <;> cases q <;> cases z <;> simp_all)
      · refine Ev.bind (l27Plain r 200 hr) (Ev.const ?_)
        congr 1
        generalize decide ((r.size : Int) ≤ 200) = z2
        generalize plainB (bs r) = p2
        generalize ((bs r).any fun b => ([35] : List UInt8).contains b) = q2
        cases p <;> cases q <;> cases z <;> cases y <;> cases p2 <;> cases q2 <;> cases z2 <;> simp_all
    · refine Ev.const ?_
      congr 1
      cases p <;> cases q <;> cases z <;> simp_all

end Go.Proofs.Ytdpopkpoogmboaa.Pure

/- What the laws do to records: sizes. -/
namespace Go.Proofs.Ytdpopkpoogmboaa.Pure
open Go.RowKit Go.Proofs.Ytdpopkpoogmboaa.P Go.Proofs.YtdpopkpoogmboaaW.PrintWords Go.Proofs.YtdpopkpoogmboaaW.PrintLast

theorem szLogRecord_f (a b : ByteArray) (m : Int) (ha : a.size ≤ 9223372036854775807) (hb : b.size ≤ 9223372036854775807) (hm : 0 ≤ m ∧ m ≤ 1048576) : ∃ t, laws_szLogRecord.f a b m = some t ∧ (t < 0 ∨ (a.size : Int) + (b.size : Int) + t = m ∧ 0 ≤ t) := by
  unfold laws_szLogRecord.f
  by_cases h : m - (a.size : Int) < 0
  · rw [w64 (x := m - (a.size : Int)) (by omega) (by omega), if_pos h]
    exact ⟨_, rfl, .inl (by omega)⟩
  · rw [w64 (x := m - (a.size : Int)) (by omega) (by omega), if_neg h, w64 (by omega) (by omega)]
    by_cases h2 : m - (a.size : Int) - (b.size : Int) < 0
    · rw [if_pos h2]; exact ⟨_, rfl, .inl (by omega)⟩
    · rw [if_neg h2]; exact ⟨_, rfl, .inr (by omega)⟩
end Go.Proofs.Ytdpopkpoogmboaa.Pure

namespace Go.Proofs.Ytdpopkpoogmboaa.Pure
open Go.RowKit Go.Proofs.Ytdpopkpoogmboaa.P Go.Proofs.YtdpopkpoogmboaaW.PrintWords Go.Proofs.YtdpopkpoogmboaaW.PrintLast

theorem FnExactIsValidRecord (c r : ByteArray) (hc0 : c.size ≤ maxLen) (hr0 : r.size ≤ maxLen) : ∃ n, laws_FnExactIsValidRecord.f n c r = some true := by
  have hc : c.size ≤ 9223372036854775807 := Nat.le_trans hc0 (by decide)
  have hr : r.size ≤ 9223372036854775807 := Nat.le_trans hr0 (by decide)
  apply Ev.rounds
  unfold laws_FnExactIsValidRecord.f
  obtain ⟨t, ht, hl⟩ := szLogRecord_f c r 1048576 hc hr (by omega)
  refine Ev.bindc ht (Ev.cases (fun _ => Ev.now _) (fun ht0 => ?_))
  have sr : Ev (fun k => spec_IsValidRecord.f k c r) (recB (bs c) (bs r)) := by
    unfold spec_IsValidRecord.f
    exact Ev.bind (l27Good c r (by omega) (by omega)) (Ev.const rfl)
  exact Ev.bindc rfl (Ev.bind sr (Ev.bindc rfl (Ev.bind (isValidRecord c r) (Ev.neg (by simp) (Ev.const rfl)))))
end Go.Proofs.Ytdpopkpoogmboaa.Pure
